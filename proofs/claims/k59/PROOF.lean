import PyProof.Rows.All
import PySem.Eval
import HandS.ForMost
import HandS.Wide
import HandS.TupAny
import HandS.TupMul
import HandS.Style
import HandS.Rev
import HandS.Walk
import HandS.Zip
import HandS.Deep
import HandS.Flow
import HandS.Conv
import HandS.Codes
import KE.SortData
import HandS.Strs
import HandS.Small
import HandS.HeadHook4
import HandS.Words
import HandS.HeadHook1
import HandS.HeadHook2
import KE.KStateDown
import HandS.Ends
import HandS.More
import HandS.WordsExc
import HandS.Defaults
import HandS.Head0
import HandS.Head1
import HandS.Head2
import HandS.HeadEnd
import PySem.Challenge.RW_nogapsleft_k59_whole_patterns_put_togeth
section
/-! CvA: a small core language, its values (trees) and its interpreter. Plain Lean. -/
set_option autoImplicit false
namespace Cv

/-- values: trees -/
inductive D where
  | non | bl (b : Bool) | int (i : Int) | str (s : List Nat) | tup (xs : List D) | lst (xs : List D) | dic (ks vs : List D)
  deriving Inhabited

/-- what a name holds: nothing, a value that nobody changes, a list or dict of the frame's own, the caller's object (lent to a parameter), a list that is only walked (the script), nothing for now -/
inductive Sl where
  | no | val (d : D) | own (d : D) | io (d : D) | ro (d : D) | lent
  deriving Inhabited

abbrev Env := List Sl

def big : Nat := 16777216
def lenOk (n : Nat) : Bool := Nat.ble n big

mutual
def D.eqv : D → D → Bool
  | .non, .non => true
  | .bl a, .bl b => a == b
  | .bl a, .int j => (if a then 1 else 0) == j
  | .int i, .bl b => i == (if b then 1 else 0)
  | .int i, .int j => i == j
  | .str a, .str b => a == b
  | .tup xs, .tup ys => D.eqvL xs ys
  | .lst xs, .lst ys => D.eqvL xs ys
  | _, _ => false
def D.eqvL : List D → List D → Bool
  | [], [] => true
  | x :: xs, y :: ys => D.eqv x y && D.eqvL xs ys
  | [], _ :: _ => false
  | _ :: _, [] => false
end

mutual
/-- it may be compared: no dict, good texts, not deeper than n -/
def D.fit : D → Nat → Bool
  | .non, _ => true
  | .bl _, _ => true
  | .int _, _ => true
  | .str s, _ => s.all (fun c => Nat.blt c 1114112) && lenOk s.length
  | .tup xs, n => match n with
    | 0 => false
    | n + 1 => D.fitL xs n
  | .lst xs, n => match n with
    | 0 => false
    | n + 1 => D.fitL xs n
  | .dic _ _, _ => false
def D.fitL : List D → Nat → Bool
  | [], _ => true
  | x :: xs, n => D.fit x n && D.fitL xs n
end

def D.scal : D → D → Bool
  | .non, .non => true | .non, .int _ => true | .int _, .non => true | .non, .bl _ => true | .bl _, .non => true | .non, .str _ => true | .str _, .non => true
  | .int _, .int _ => true | .bl _, .bl _ => true | .str _, .str _ => true
  | .int _, .str _ => true | .str _, .int _ => true | .bl _, .str _ => true | .str _, .bl _ => true
  | _, _ => false

/-- x == y -/
def eqD (x y : D) : Option Bool :=
  if D.scal x y then some (D.eqv x y) else if D.fit x 64 && D.fit y 64 then some (D.eqv x y) else none

/-- by truth -/
def truth : D → Option Bool
  | .non => some false
  | .bl b => some b
  | .int i => some (i != 0)
  | .str s => if lenOk s.length then some (!s.isEmpty) else none
  | .tup xs => some (!xs.isEmpty)
  | .lst xs => some (!xs.isEmpty)
  | .dic _ _ => none

/-! ### numbers -/
def mulOk (i j : Int) : Bool :=
  (decide (-18446744073709551616 < i) && decide (i < 18446744073709551616)) || (decide (-18446744073709551616 < j) && decide (j < 18446744073709551616)) ||
    (Nat.blt i.natAbs.log2 400000 && Nat.blt j.natAbs.log2 400000)
def divOk (j : Int) : Bool := decide (0 < j) && Nat.blt j.natAbs.log2 9000

inductive Bop where
  | add | sub | mul | fdiv | mod | band | bor | bxor | shl | shr
  deriving DecidableEq, Inhabited

def binI : Bop → Int → Int → Option Int
  | .add, i, j => some (i + j)
  | .sub, i, j => some (i - j)
  | .mul, i, j => if mulOk i j then some (i * j) else none
  | .fdiv, i, j => if divOk j then some (i / j) else none
  | .mod, i, j => if decide (0 < j) then some (i % j) else none
  | .band, i, j => if decide (0 ≤ i) && decide (0 ≤ j) then some (Int.ofNat (Nat.land i.toNat j.toNat)) else none
  | .bor, i, j => if decide (0 ≤ i) && decide (0 ≤ j) then some (Int.ofNat (Nat.lor i.toNat j.toNat)) else none
  | .bxor, i, j => if decide (0 ≤ i) && decide (0 ≤ j) then some (Int.ofNat (Nat.xor i.toNat j.toNat)) else none
  | .shl, i, j => if decide (0 ≤ j) && decide (j ≤ 1000) && Nat.blt i.natAbs 18446744073709551616 then some (i * 2 ^ j.toNat) else none
  | .shr, i, j => if decide (0 ≤ j) then some (i / 2 ^ j.toNat) else none

def repL {α : Type} (xs : List α) : Nat → List α
  | 0 => []
  | n + 1 => xs ++ repL xs n

def binD : Bop → D → D → Option D
  | o, .int i, .int j => (binI o i j).map .int
  | .add, .str a, .str b => if lenOk (a.length + b.length) then some (.str (a ++ b)) else none
  | .add, .tup a, .tup b => if lenOk (a.length + b.length) then some (.tup (a ++ b)) else none
  | .add, .lst a, .lst b => if lenOk (a.length + b.length) then some (.lst (a ++ b)) else none
  | _, _, _ => none

/-! ### comparisons -/
inductive Cop where
  | eq | ne | lt | le | gt | ge | is | isn | inn | nin
  deriving DecidableEq, Inhabited

def lexI : List Int → List Int → Bool
  | [], [] => false
  | [], _ :: _ => true
  | _ :: _, [] => false
  | x :: xs, y :: ys => if x = y then lexI xs ys else decide (x < y)
def intsOf : List D → Option (List Int)
  | [] => some []
  | .int i :: r => (intsOf r).map (i :: ·)
  | _ :: _ => none
def lexN : List Nat → List Nat → Bool
  | [], [] => false
  | [], _ :: _ => true
  | _ :: _, [] => false
  | x :: xs, y :: ys => if x = y then lexN xs ys else Nat.blt x y

/-- x < y -/
def ltD : D → D → Option Bool
  | .int i, .int j => some (decide (i < j))
  | .str a, .str b => some (lexN a b)
  | .tup a, .tup b => do
    let x ← intsOf a
    let y ← intsOf b
    some (lexI x y)
  | _, _ => none
def memD (x : D) : List D → Bool
  | [] => false
  | y :: r => D.eqv y x || memD x r
/-- x in y -/
def inD : D → D → Option Bool
  | x, .tup ys => if D.fit x 60 && D.fitL ys 60 then some (memD x ys) else none
  | x, .lst ys => if D.fit x 60 && D.fitL ys 60 then some (memD x ys) else none
  | .str [c], .str z => some (z.contains c)
  | .int i, .dic ks _ => some (memD (.int i) ks)
  | .str s, .dic ks _ => some (memD (.str s) ks)
  | _, _ => none
def isNon : D → Bool
  | .non => true
  | _ => false
def isD : D → D → Option Bool
  | x, .non => some (isNon x)
  | .bl a, .bl b => some (a == b)
  | _, _ => none
def cmpD : Cop → D → D → Option Bool
  | .eq, x, y => eqD x y
  | .ne, x, y => (eqD x y).map (!·)
  | .lt, x, y => ltD x y
  | .gt, x, y => match x, y with
    | .int i, .int j => some (decide (j < i))
    | _, _ => none
  | .le, x, y => match x, y with
    | .int i, .int j => some (decide (i ≤ j))
    | _, _ => none
  | .ge, x, y => match x, y with
    | .int i, .int j => some (decide (j ≤ i))
    | _, _ => none
  | .is, x, y => isD x y
  | .isn, x, y => (isD x y).map (!·)
  | .inn, x, y => inD x y
  | .nin, x, y => (inD x y).map (!·)

/-! ### items, slices -/
def ixN (n : Nat) (i : Int) : Option Nat := if 0 ≤ i then (if i < n then some i.toNat else none) else if -(n : Int) ≤ i then some (i + n).toNat else none
def atI {α : Type} (xs : List α) (i : Int) : Option α := (ixN xs.length i).bind fun j => xs[j]?
def keyOk : D → Bool
  | .int _ => true
  | .str _ => true
  | _ => false
def findK (x : D) : List D → List D → Option D
  | k :: ks, v :: vs => if D.eqv k x then some v else findK x ks vs
  | _, _ => none
def ixD : D → D → Option D
  | .lst xs, .int i => atI xs i
  | .tup xs, .int i => atI xs i
  | .str s, .int i => if lenOk s.length then (atI s i).map fun c => .str [c] else none
  | .dic ks vs, k => if keyOk k then findK k ks vs else none
  | _, _ => none
def sIx (n d : Nat) : Option Int → Nat
  | none => d
  | some v => if v < 0 then (v + n).toNat else if v < n then v.toNat else n
def cutL {α : Type} (xs : List α) (lo hi : Option Int) : List α := (xs.drop (sIx xs.length 0 lo)).take (sIx xs.length xs.length hi - sIx xs.length 0 lo)
def slD (d : D) (lo hi : Option Int) : Option D := match d with
  | .lst xs => some (.lst (cutL xs lo hi))
  | .tup xs => some (.tup (cutL xs lo hi))
  | .str s => if lenOk s.length then some (.str (cutL s lo hi)) else none
  | _ => none
def revD : D → Option D
  | .lst xs => some (.lst xs.reverse)
  | .tup xs => some (.tup xs.reverse)
  | .str s => if lenOk s.length then some (.str s.reverse) else none
  | _ => none

/-! ### built-in functions of one value -/
inductive B1 where
  | abs | int | bool | len | sum | any | all | min | max | tuple | list | sorted | str | dict
  deriving DecidableEq, Inhabited

def boolsOf : List D → Option (List Bool)
  | [] => some []
  | .bl b :: r => (boolsOf r).map (b :: ·)
  | _ :: _ => none
def iterOf : D → Option (List D)
  | .lst xs => some xs
  | .tup xs => some xs
  | .str s => some (s.map fun c => .str [c])
  | .dic ks _ => some ks
  | _ => none
def maxI : Int → List Int → Int
  | m, [] => m
  | m, x :: r => maxI (if m < x then x else m) r
def minI : Int → List Int → Int
  | m, [] => m
  | m, x :: r => minI (if x < m then x else m) r
/-- the order in which sorted puts: ints, texts, tuples and lists of such (place by place) -/
def D.cmp : D → D → Option Ordering
  | _, _ => none

mutual
def D.alike : D → D → Bool
  | .int _, .int _ => true
  | .str _, .str _ => true
  | .bl _, .bl _ => true
  | .tup xs, .tup ys => D.alikeL xs ys
  | .lst xs, .lst ys => D.alikeL xs ys
  | _, _ => false
def D.alikeL : List D → List D → Bool
  | x :: xs, y :: ys => D.alike x y && D.alikeL xs ys
  | [], _ => true
  | _ :: _, [] => true
end
mutual
/-- x < y of alike values -/
def D.lt : D → D → Bool
  | .int i, .int j => decide (i < j)
  | .str a, .str b => lexN a b
  | .bl a, .bl b => !a && b
  | .tup xs, .tup ys => D.ltL xs ys
  | .lst xs, .lst ys => D.ltL xs ys
  | _, _ => false
def D.ltL : List D → List D → Bool
  | [], [] => false
  | [], _ :: _ => true
  | _ :: _, [] => false
  | x :: xs, y :: ys => if D.eqv x y then D.ltL xs ys else D.lt x y
end
def ins (x : D) : List D → List D
  | [] => [x]
  | y :: r => if D.lt y x then y :: ins x r else x :: y :: r
/-- stable: an item is put ahead of those that are not less than it -/
def isort : List D → List D
  | [] => []
  | x :: r => ins x (isort r)
def merge : List D → List D → Nat → List D
  | xs, [], _ => xs
  | [], ys, _ => ys
  | xs, ys, 0 => xs ++ ys
  | x :: xs, y :: ys, n + 1 => if D.lt y x then y :: merge (x :: xs) ys n else x :: merge xs (y :: ys) n
def isTupNE : D → Bool
  | .tup (_ :: _) => true
  | _ => false
def isTup : D → Bool
  | .tup _ => true
  | _ => false
def alikeAll (xs : List D) : Bool := match xs with
  | [] => true
  | x :: r => xs.all fun y => D.alike x y && D.alike y x && D.fit y 60
def sortable (xs : List D) : Bool := (xs.all isTupNE || xs.all (fun d => !isTup d && !isNon d)) || (Nat.ble xs.length 1 && xs.all (fun d => !isNon d))
/-- all pairs alike (first with each suffices for one-kind data; here each with each) -/
def alikeEach : List D → Bool
  | [] => true
  | x :: r => D.alike x x && r.all (fun y => D.alike x y && D.alike y x) && alikeEach r
def sortD (xs : List D) : Option (List D) :=
  if lenOk xs.length && sortable xs && alikeEach xs && D.fitL xs 60 then some (isort xs) else none

def b1 : B1 → D → Option D
  | .abs, .int i => some (.int (if i < 0 then -i else i))
  | .int, .int i => some (.int i)
  | .int, .bl b => some (.int (if b then 1 else 0))
  | .bool, .int i => some (.bl (i != 0))
  | .bool, .bl b => some (.bl b)
  | .len, .lst xs => some (.int xs.length)
  | .len, .tup xs => some (.int xs.length)
  | .len, .str s => if lenOk s.length then some (.int s.length) else none
  | .len, .dic ks _ => some (.int ks.length)
  | .sum, .lst xs => (intsOf xs).map fun ns => .int ns.sum
  | .any, .lst xs => (boolsOf xs).map fun bs => .bl (bs.any id)
  | .all, .lst xs => (boolsOf xs).map fun bs => .bl (bs.all id)
  | .min, .lst xs => match intsOf xs with
    | some (m :: r) => some (.int (minI m r))
    | _ => none
  | .max, .lst xs => match intsOf xs with
    | some (m :: r) => some (.int (maxI m r))
    | _ => none
  | .tuple, .lst xs => some (.tup xs)
  | .tuple, .tup xs => some (.tup xs)
  | .list, .lst xs => some (.lst xs)
  | .list, .tup xs => some (.lst xs)
  | .sorted, .lst xs => (sortD xs).map .lst
  | _, _ => none

/-! ### the language -/
/-- targets of assignments -/
inductive Tg where
  | name (i : Nat)
  | tup (ts : List Tg)
  deriving Inhabited

mutual
inductive CE where
  | var (i : Nat)
  | lit (d : D)
  | bin (o : Bop) (a b : CE)
  | neg (a : CE)
  | cmp (o : Cop) (a b : CE)
  | chain (o p : Cop) (a b c : CE)
  | andt (a b : CE)
  | ort (a b : CE)
  | nott (a : CE)
  | ite (c a b : CE)
  | tup (es : CEs)
  | lst (es : CEs)
  | lc (e : CE) (tg : Tg) (it : CI) (own : List Nat) (t : CO)
  | lc2 (e : CE) (tg : Tg) (it : CI) (t : CO) (tg2 : Tg) (it2 : CI) (t2 : CO) (own own2 : List Nat)
  | call (f : Nat) (es : CEs)
  | callT (f : Nat) (i : Nat) (es : CEs)
  | callR (f : Nat) (i : Nat) (es : CEs)
  | callN (f : Nat) (i : Nat) (es : CEs)
  | b1 (f : B1) (a : CE)
  | min2 (a b : CE)
  | max2 (a b : CE)
  | ix (a i : CE)
  | sl (a : CE) (lo hi : CO)
  | rev (a : CE)
  | lstRng (a : CE)
  | trev (a : CE)
  | join (a : CE) (b : CE)
  | index (a : CE) (x : CE)
  | app (i : Nat) (x : CE)
  | pop (i : Nat)
  | popAt (i : Nat) (x : CE)
  | dct (ps : CP)
/-- argument lists -/
inductive CEs where
  | nil
  | cons (e : CE) (es : CEs)
/-- pairs of a dict display -/
inductive CP where
  | nil
  | cons (k v : CE) (r : CP)
/-- one that may be left out -/
inductive CO where
  | no
  | e (a : CE)
/-- what is walked -/
inductive CI where
  | e (a : CE)
  | own (i : Nat)
  | rng1 (a : CE)
  | rng2 (a b : CE)
end

abbrev R := Option (D × Env)
/-- a call: the def's number, the arguments; the answer and what stands then at a lent first argument -/
abbrev CallF := Nat → List D → Option (D × D)

def load (i : Nat) (env : Env) : R := match env[i]? with
  | some (.val d) => some (d, env)
  | some (.own d) => some (d, env.set i (.val d))
  | _ => none
/-- read, nothing else -/
def peek (i : Nat) (env : Env) : Option D := match env[i]? with
  | some (.val d) => some d
  | some (.own d) => some d
  | some (.io d) => some d
  | _ => none
/-- an operand: a value, or a name that is read when all operands are known -/
inductive Op where
  | v (d : D) | s (i : Nat)
def opd (a : CE) (env : Env) (r : R) : Option (Op × Env) := match a with
  | .var i => match env[i]? with
    | some (.val d) => some (.v d, env)
    | some (.own _) => some (.s i, env)
    | some (.io _) => some (.s i, env)
    | _ => none
  | _ => match r with
    | some (d, e) => some (.v d, e)
    | none => none
def rd (o : Op) (env : Env) : Option D := match o with
  | .v d => some d
  | .s i => peek i env
def store (i : Nat) (s : Sl) (env : Env) : Option Env := match env[i]? with
  | some .no => some (env.set i s)
  | some (.val _) => some (env.set i s)
  | some (.own _) => some (env.set i s)
  | _ => none

mutual
def asgT : Tg → D → Env → Option Env
  | .name i, d, env => store i (.val d) env
  | .tup ts, d, env => match d with
    | .tup ds => asgTs ts ds env
    | _ => none
def asgTs : List Tg → List D → Env → Option Env
  | [], [], env => some env
  | t :: ts, d :: ds, env => match asgT t d env with
    | some e => asgTs ts ds e
    | none => none
  | _, _, _ => none
end

def wipeS : Env → List Nat → Env
  | env, [] => env
  | env, i :: r => (wipeS env r).set i .no
/-- the names of a block must hold nothing of the frame's own -/
def free (env : Env) : List Nat → Bool
  | [] => true
  | i :: r => (match env[i]? with
    | some .no => true
    | some (.val _) => true
    | _ => false) && free env r
/-- behind a block: its names hold what they held ahead -/
def back (old new : Env) : List Nat → Env
  | [] => new
  | i :: r => (back old new r).set i (old.getD i .no)

/-- the turns of a list comprehension -/
def lcGo (tg : Tg) (own : List Nat) (t : Env → Option (Bool × Env)) (e : Env → R) : List D → Env → Option (List D × Env)
  | [], env => some ([], env)
  | d :: ds, env => match asgT tg d (wipeS env own) with
    | none => none
    | some env1 => match t env1 with
      | none => none
      | some (false, env2) => lcGo tg own t e ds env2
      | some (true, env2) => match e env2 with
        | none => none
        | some (x, env3) => match lcGo tg own t e ds env3 with
          | none => none
          | some (r, env4) => some (x :: r, env4)
/-- the turns of the outer clause of two -/
def lcGo2 (tg : Tg) (own : List Nat) (t : Env → Option (Bool × Env)) (inner : Env → Option (List D × Env)) : List D → Env → Option (List D × Env)
  | [], env => some ([], env)
  | d :: ds, env => match asgT tg d (wipeS env own) with
    | none => none
    | some env1 => match t env1 with
      | none => none
      | some (false, env2) => lcGo2 tg own t inner ds env2
      | some (true, env2) => match inner env2 with
        | none => none
        | some (x, env3) => match lcGo2 tg own t inner ds env3 with
          | none => none
          | some (r, env4) => some (x ++ r, env4)

def tst (c : CE) (env : Env) (r : R) : Option (Bool × Env) := match opd c env r with
  | none => none
  | some (o, e) => match rd o e with
    | none => none
    | some d => match truth d with
      | none => none
      | some b => some (b, e)

def lim62 : Int := 4611686018427387904
def rngOk (i : Int) : Bool := decide (-lim62 ≤ i) && decide (i < lim62)
def rngL (lo : Int) (n : Nat) : List D := (List.range n).map fun (k : Nat) => .int (lo + (k : Int))
def rngS (lo s : Int) (n : Nat) : List D := (List.range n).map fun (k : Nat) => .int (lo + (k : Int) * s)
def enumL : Nat → List D → List D
  | _, [] => []
  | n, x :: r => .tup [.int n, x] :: enumL (n + 1) r
def zipL : List D → List D → List D
  | x :: xs, y :: ys => .tup [x, y] :: zipL xs ys
  | _, _ => []
def seqOf : D → Option (List D)
  | .lst xs => some xs
  | .tup xs => some xs
  | _ => none
def walkOf : D → Option (List D)
  | .lst xs => some xs
  | .tup xs => some xs
  | .str s => some (s.map fun c => .str [c])
  | _ => none

def nodupN : List Nat → Bool
  | [] => true
  | i :: r => !r.contains i && nodupN r

def isFreshTop : CE → Bool
  | .lst _ => true
  | .lc .. => true
  | .lc2 .. => true
  | .dct _ => true
  | .lstRng _ => true
  | .b1 .list _ => true
  | .b1 .sorted _ => true
  | .callN .. => true
  | _ => false

def repV (k v : D) : List D → List D → List D
  | k' :: ks, v' :: vs => (if D.eqv k' k then v else v') :: repV k v ks vs
  | _, _ => []
def putD (k v : D) (ks vs : List D) : List D × List D := if ks.any (fun k' => D.eqv k' k) then (ks, repV k v ks vs) else (ks ++ [k], vs ++ [v])
def mkD : List D → List D → List D → List D → List D × List D
  | k :: ks, v :: vs, a, b => let (a', b') := putD k v a b; mkD ks vs a' b'
  | _, _, a, b => (a, b)

def countD (x : D) : List D → Nat
  | [] => 0
  | y :: r => (if D.eqv y x then 1 else 0) + countD x r
def lstOf : D → Option (List D)
  | .lst xs => some xs
  | _ => none
def kind : D → Nat
  | .lst _ => 1
  | .tup _ => 2
  | .dic _ _ => 3
  | _ => 0
def isOwnL (env : Env) (i : Nat) : Bool := match env[i]? with
  | some (.own (.lst _)) => true
  | _ => false
def isObjS (env : Env) (i : Nat) : Bool := match env[i]? with
  | some (.own _) => true
  | some (.io _) => true
  | _ => false
def isRoS (env : Env) (i : Nat) : Bool := match env[i]? with
  | some (.ro _) => true
  | _ => false
def findIx (x : D) : List D → Option Nat
  | [] => none
  | y :: r => if D.eqv y x then some 0 else (findIx x r).map (· + 1)
def strsOf : List D → Option (List (List Nat))
  | [] => some []
  | .str s :: r => (strsOf r).map (s :: ·)
  | _ :: _ => none
def joinS (sep : List Nat) : List (List Nat) → List Nat
  | [] => []
  | [s] => s
  | s :: r => s ++ sep ++ joinS sep r

/-- behind a walk: the list that was lent is the frame's own again -/
def unlend : CI → Env → Env → Option Env
  | .own i, old, env => match old[i]? with
    | some (.own d) => match env[i]? with
      | some .lent => some (env.set i (.own d))
      | _ => none
    | _ => some env
  | _, _, env => some env
section
variable (cf : CallF)
mutual
def evE : CE → Env → R
  | .var i, env => load i env
  | .lit d, env => some (d, env)
  | .bin o a b, env => match opd a env (evE a env) with
    | none => none
    | some (x, e1) => match opd b e1 (evE b e1) with
      | none => none
      | some (y, e2) => match rd x e2, rd y e2 with
        | some p, some q => match binD o p q with
          | some d => some (d, e2)
          | none => none
        | _, _ => none
  | .neg a, env => match evE a env with
    | some (.int i, e) => some (.int (-i), e)
    | _ => none
  | .cmp o a b, env => match opd a env (evE a env) with
    | none => none
    | some (x, e1) => match opd b e1 (evE b e1) with
      | none => none
      | some (y, e2) => match rd x e2, rd y e2 with
        | some p, some q => match cmpD o p q with
          | some k => some (.bl k, e2)
          | none => none
        | _, _ => none
  | .chain o p a b c, env => match evE a env with
    | none => none
    | some (x, e1) => match evE b e1 with
      | none => none
      | some (y, e2) => match cmpD o x y with
        | none => none
        | some false => some (.bl false, e2)
        | some true => match evE c e2 with
          | none => none
          | some (z, e3) => match cmpD p y z with
            | some k => some (.bl k, e3)
            | none => none
  | .andt a b, env => match evE a env with
    | none => none
    | some (x, e1) => match truth x with
      | none => none
      | some true => evE b e1
      | some false => some (x, e1)
  | .ort a b, env => match evE a env with
    | none => none
    | some (x, e1) => match truth x with
      | none => none
      | some true => some (x, e1)
      | some false => evE b e1
  | .nott a, env => match tst a env (evE a env) with
    | none => none
    | some (k, e) => some (.bl (!k), e)
  | .ite c a b, env => match tst c env (evE c env) with
    | none => none
    | some (true, e) => evE a e
    | some (false, e) => evE b e
  | .tup es, env => match evL es env with
    | some (ds, e) => if lenOk ds.length then some (.tup ds, e) else none
    | none => none
  | .lst es, env => match evL es env with
    | some (ds, e) => if lenOk ds.length then some (.lst ds, e) else none
    | none => none
  | .lc x tg it own t, env => match evI it env with
    | none => none
    | some (ds, e1) =>
      if free e1 own && lenOk ds.length then
        match lcGo tg own (evT t) (evE x) ds e1 with
        | none => none
        | some (r, e2) => match unlend it env (back e1 e2 own) with
          | some e3 => some (.lst r, e3)
          | none => none
      else none
  | .lc2 x tg it t tg2 it2 t2 own own2, env => match evI it env with
    | none => none
    | some (ds, e1) =>
      if free e1 own && lenOk ds.length then
        match lcGo2 tg own (evT t)
          (fun v => match evI it2 v with
            | none => none
            | some (ds2, v1) => match it2 with
              | .own _ => none
              | _ => if lenOk ds2.length then lcGo tg2 own2 (evT t2) (evE x) ds2 v1 else none) ds e1 with
        | none => none
        | some (r, e2) => if lenOk r.length then
            match unlend it env (back e1 e2 own) with
            | some e3 => some (.lst r, e3)
            | none => none
          else none
      else none
  | .call f es, env => match evL es env with
    | none => none
    | some (ds, e1) => match cf f ds with
      | none => none
      | some (r, _) => some (r, e1)
  | .callT f i es, env => if isObjS env i then match evL es env with
    | none => none
    | some (ds, e1) => match e1[i]? with
      | some (.own d) => match cf f (d :: ds) with
        | none => none
        | some (r, o) => some (r, e1.set i (.own o))
      | some (.io d) => match cf f (d :: ds) with
        | none => none
        | some (r, o) => some (r, e1.set i (.io o))
      | _ => none
    else none
  | .callR f i es, env => if isRoS env i then match evL es env with
    | none => none
    | some (ds, e1) => match e1[i]? with
      | some (.ro d) => match cf f (d :: ds) with
        | none => none
        | some (r, _) => some (r, e1)
      | _ => none
    else none
  | .callN f i es, env => if isRoS env i then match evL es env with
    | none => none
    | some (ds, e1) => match e1[i]? with
      | some (.ro d) => match cf f (d :: ds) with
        | none => none
        | some (r, _) => some (r, e1)
      | _ => none
    else none
  | .b1 f a, env => match opd a env (evE a env) with
    | none => none
    | some (x, e1) => match rd x e1 with
      | none => none
      | some p => match b1 f p with
        | some d => some (d, e1)
        | none => none
  | .min2 a b, env => match evE a env with
    | some (.int i, e1) => match evE b e1 with
      | some (.int j, e2) => some (.int (if j < i then j else i), e2)
      | _ => none
    | _ => none
  | .max2 a b, env => match evE a env with
    | some (.int i, e1) => match evE b e1 with
      | some (.int j, e2) => some (.int (if i < j then j else i), e2)
      | _ => none
    | _ => none
  | .ix a i, env => match opd a env (evE a env) with
    | none => none
    | some (x, e1) => match evE i e1 with
      | none => none
      | some (k, e2) => match rd x e2 with
        | none => none
        | some p => match ixD p k with
          | some d => some (d, e2)
          | none => none
  | .sl a lo hi, env => match opd a env (evE a env) with
    | none => none
    | some (x, e1) => match evO lo e1 with
      | none => none
      | some (l, e2) => match evO hi e2 with
        | none => none
        | some (h, e3) => match rd x e3 with
          | none => none
          | some p => match slD p l h with
            | some d => some (d, e3)
            | none => none
  | .rev a, env => match opd a env (evE a env) with
    | none => none
    | some (x, e1) => match rd x e1 with
      | none => none
      | some p => match revD p with
        | some d => some (d, e1)
        | none => none
  | .lstRng a, env => match evE a env with
    | some (.int i, e1) => if decide (i ≤ 16777216) && decide (-16777216 ≤ i) then some (.lst (rngL 0 i.toNat), e1) else none
    | _ => none
  | .trev a, env => match evE a env with
    | some (.tup xs, e1) => some (.tup xs.reverse, e1)
    | _ => none
  | .join a b, env => match evE a env with
    | some (.str sep, e1) => match evE b e1 with
      | some (d, e2) => match seqOf d with
        | none => none
        | some xs => match strsOf xs with
          | none => none
          | some ss => if lenOk ((ss.map List.length).sum + ss.length * sep.length) then some (.str (joinS sep ss), e2) else none
      | none => none
    | _ => none
  | .index a x, env => match opd a env (evE a env) with
    | none => none
    | some (o, e1) => match rd o e1 with
      | none => none
      | some p0 => match evE x e1 with
        | none => none
        | some (k, e2) => match rd o e2 with
          | none => none
          | some p => if kind p0 == kind p then match seqOf p with
            | none => none
            | some xs => if D.fit k 60 && D.fitL xs 60 && lenOk xs.length then match findIx k xs with
                | some j => some (.int j, e2)
                | none => none
              else none
            else none
  | .app i x, env => if isOwnL env i then match evE x env with
    | none => none
    | some (d, e1) => match e1[i]? with
      | some (.own (.lst xs)) => if Nat.blt xs.length big then some (.non, e1.set i (.own (.lst (xs ++ [d])))) else none
      | _ => none
    else none
  | .pop i, env => match env[i]? with
    | some (.own (.lst xs)) => match xs[xs.length - 1]? with
      | some d => some (d, env.set i (.own (.lst xs.dropLast)))
      | none => none
    | _ => none
  | .popAt i x, env => if isOwnL env i then match evE x env with
    | some (.int k, e1) => match e1[i]? with
      | some (.own (.lst xs)) => match (if rngOk k then ixN xs.length k else none) with
        | none => none
        | some j => match xs[j]? with
          | some d => some (d, e1.set i (.own (.lst (xs.eraseIdx j))))
          | none => none
      | _ => none
    | _ => none
    else none
  | .dct ps, env => match evP ps env with
    | none => none
    | some (a, b, e1) => if Nat.ble a.length 15 && a.all keyOk then
        some ((fun p => .dic p.1 p.2) (mkD a b [] []), e1)
      else none
/-- a test that may be left out -/
def evT : CO → Env → Option (Bool × Env)
  | .no, env => some (true, env)
  | .e c, env => tst c env (evE c env)
/-- an end of a slice -/
def evO : CO → Env → Option (Option Int × Env)
  | .no, env => some (none, env)
  | .e c, env => match evE c env with
    | some (.int i, e) => some (some i, e)
    | _ => none
/-- values, one after another; a lent one is none -/
def evL : CEs → Env → Option (List D × Env)
  | .nil, env => some ([], env)
  | .cons a es, env => match evE a env with
    | none => none
    | some (d, e1) => match evL es e1 with
      | none => none
      | some (ds, e2) => some (d :: ds, e2)
/-- pairs of a dict display -/
def evP : CP → Env → Option (List D × List D × Env)
  | .nil, env => some ([], [], env)
  | .cons k v r, env => match evE k env with
    | none => none
    | some (a, e1) => match evE v e1 with
      | none => none
      | some (b, e2) => match evP r e2 with
        | none => none
        | some (as, bs, e3) => some (a :: as, b :: bs, e3)
/-- the items of what is walked -/
def evI : CI → Env → Option (List D × Env)
  | .e a, env => match evE a env with
    | none => none
    | some (d, e1) => match walkOf d with
      | some xs => some (xs, e1)
      | none => none
  | .own i, env => match env[i]? with
    | some (.own (.lst xs)) => some (xs, env.set i .lent)
    | some (.ro (.lst xs)) => some (xs, env)
    | some (.val d) => match walkOf d with
      | some xs => some (xs, env)
      | none => none
    | _ => none
  | .rng1 a, env => match evE a env with
    | some (.int j, e1) => if rngOk j then some (rngL 0 j.toNat, e1) else none
    | _ => none
  | .rng2 a b, env => match evE a env with
    | some (.int i, e1) => match evE b e1 with
      | some (.int j, e2) => if rngOk i && rngOk j then some (rngL i (j - i).toNat, e2) else none
      | _ => none
    | _ => none
end
end

/-! ### statements -/
inductive Flow where
  | nx | rt (d : D) | bk | ct

mutual
inductive CS where
  | asg (t : Tg) (e : CE)
  | asgO (i : Nat) (e : CE)
  | asgM (ts : List (Nat × Bool)) (es : CEs)
  | setix (i : Nat) (k e : CE)
  | aug (i : Nat) (o : Bop) (e : CE)
  | ex (e : CE)
  | ife (c : CE) (a b : CSs)
  | whl (c : CE) (b : CSs)
  | for_ (t : Tg) (it : CI) (b : CSs)
  | ret (e : CE)
  | retO (e : CE)
  | retN
  | pass
  | brk
  | cont
  | never
inductive CSs where
  | nil
  | cons (s : CS) (r : CSs)
end

abbrev RS := Option (Flow × Env)

def isObj : D → Bool
  | .lst _ => true
  | .dic _ _ => true
  | _ => false
def storeM : List (Nat × Bool) → List D → Env → Option Env
  | [], [], env => some env
  | (i, o) :: ts, d :: ds, env => if o && !isObj d then none else match store i (if o then .own d else .val d) env with
    | none => none
    | some e => storeM ts ds e
  | _, _, _ => none
def forGo (t : Tg) (b : Env → RS) : List D → Env → RS
  | [], env => some (.nx, env)
  | d :: ds, env => match asgT t d env with
    | none => none
    | some e1 => match b e1 with
      | none => none
      | some (.nx, e2) => forGo t b ds e2
      | some (.ct, e2) => forGo t b ds e2
      | some (.bk, e2) => some (.nx, e2)
      | some (.rt d, e2) => some (.rt d, e2)
def whGo (c : Env → Option (Bool × Env)) (b : Env → RS) : Nat → Env → RS
  | 0, _ => none
  | n + 1, env => match c env with
    | none => none
    | some (false, e1) => some (.nx, e1)
    | some (true, e1) => match b e1 with
      | none => none
      | some (.nx, e2) => whGo c b n e2
      | some (.ct, e2) => whGo c b n e2
      | some (.bk, e2) => some (.nx, e2)
      | some (.rt d, e2) => some (.rt d, e2)
/-- the object of a name, changed -/
def chg (i : Nat) (f : D → Option D) (env : Env) : Option Env := match env[i]? with
  | some (.own d) => match f d with
    | some d' => some (env.set i (.own d'))
    | none => none
  | some (.io d) => match f d with
    | some d' => some (env.set i (.io d'))
    | none => none
  | _ => none
def setD (k v : D) : D → Option D
  | .lst xs => match k with
    | .int i => match ixN xs.length i with
      | some j => some (.lst (xs.set j v))
      | none => none
    | _ => none
  | .dic ks vs => if keyOk k && Nat.blt ks.length big then some ((fun p => .dic p.1 p.2) (putD k v ks vs)) else none
  | _ => none
def unlendF (it : CI) (old : Env) : RS → RS
  | some (f, e) => match unlend it old e with
    | some e' => some (f, e')
    | none => none
  | none => none
def augD : Bop → D → D → Option D
  | .add, .int i, .int j => some (.int (i + j))
  | .sub, .int i, .int j => some (.int (i - j))
  | _, _, _ => none

section
variable (cf : CallF) (W : Nat)
mutual
def exS : CS → Env → RS
  | .asg t e, env => match evE cf e env with
    | none => none
    | some (d, e1) => match asgT t d e1 with
      | none => none
      | some e2 => some (.nx, e2)
  | .asgO i e, env => match evE cf e env with
    | none => none
    | some (d, e1) => if isObj d then match store i (.own d) e1 with
        | none => none
        | some e2 => some (.nx, e2)
      else none
  | .asgM ts es, env => match evL cf es env with
    | none => none
    | some (ds, e1) => match storeM ts ds e1 with
      | none => none
      | some e2 => some (.nx, e2)
  | .setix i k e, env => match evE cf e env with
    | none => none
    | some (v, e1) => if isObjS e1 i then match evE cf k e1 with
      | none => none
      | some (x, e2) => match chg i (setD x v) e2 with
        | none => none
        | some e3 => some (.nx, e3)
      else none
  | .aug i o e, env => match env[i]? with
    | some (.val old) => match evE cf e env with
      | none => none
      | some (v, e1) => match augD o old v with
        | none => none
        | some d => match store i (.val d) e1 with
          | none => none
          | some e2 => some (.nx, e2)
    | _ => none
  | .ex e, env => match evE cf e env with
    | none => none
    | some (_, e1) => some (.nx, e1)
  | .ife c a b, env => match tst c env (evE cf c env) with
    | none => none
    | some (true, e1) => exSs a e1
    | some (false, e1) => exSs b e1
  | .whl c b, env => whGo (fun v => tst c v (evE cf c v)) (exSs b) W env
  | .for_ t it b, env => match evI cf it env with
    | none => none
    | some (ds, e1) => unlendF it env (forGo t (exSs b) ds e1)
  | .ret e, env => match evE cf e env with
    | none => none
    | some (d, e1) => some (.rt d, e1)
  | .retO e, env => match evE cf e env with
    | none => none
    | some (d, e1) => if isObj d then some (.rt d, e1) else none
  | .retN, env => some (.rt .non, env)
  | .pass, env => some (.nx, env)
  | .brk, env => some (.bk, env)
  | .cont, env => some (.ct, env)
  | .never, _ => none
def exSs : CSs → Env → RS
  | .nil, env => some (.nx, env)
  | .cons s r, env => match exS s env with
    | none => none
    | some (.nx, e1) => exSs r e1
    | some (.rt d, e1) => some (.rt d, e1)
    | some (.bk, e1) => some (.bk, e1)
    | some (.ct, e1) => some (.ct, e1)
end
end

/-! ### defs -/
/-- how a def takes its first argument: by value, as an object that it may change, as a list that it walks -/
inductive Fk where
  | v | io | ro | rn
  deriving DecidableEq
structure CF where
  np : Nat
  n : Nat
  k : Fk
  body : CSs

def startE (k : Fk) (ds : List D) : Env := match k, ds with
  | .io, d :: r => .io d :: r.map .val
  | .ro, d :: r => .ro d :: r.map .val
  | .rn, d :: r => .ro d :: r.map .val
  | _, _ => ds.map .val
def ioOut (k : Fk) (env : Env) : Option D := match k with
  | .io => match env[(0 : Nat)]? with
    | some (.io d) => some d
    | _ => none
  | _ => some .non
def runF (cf : CallF) (W : Nat) (F : CF) (args : List D) : Option (D × D) :=
  if args.length == F.np then
    match exSs cf W F.body (startE F.k args ++ List.replicate (F.n - F.np) .no) with
    | some (.nx, e) => if F.k = .rn then none else match ioOut F.k e with
      | some o => some (.non, o)
      | none => none
    | some (.rt d, e) => match ioOut F.k e with
      | some o => some (d, o)
      | none => none
    | _ => none
  else none
def callI (fs : List CF) (W : Nat) : Nat → CallF
  | 0 => fun _ _ => none
  | n + 1 => fun f args => match fs[f]? with
    | none => none
    | some F => runF (callI fs W n) W F args
end Cv
end

section
/-! CvB: from the program's syntax to the core language (with all static checks). -/
set_option autoImplicit false
namespace Cv
open PySem

/-- what is known of the module's names: defs (name, how it takes the first argument, how many parameters), constants, names that are not bound (built-ins) -/
structure GI where
  fns : List (Str × Fk × Nat)
  consts : List (Str × D)
  free : List Str

/-- static surroundings: names by slot, the scope that runs, the scope as written (for stores), whether in a def's own body, names whose lists and dicts are the frame's own, lent parameters -/
structure SC where
  N : List Str
  sc : Scope
  raw : Scope
  own : List Str
  fr : Bool

def visB (sc : Scope) (x : Str) : Bool := match sc.names.lookup x with
  | some .local => true
  | some .cell => true
  | some .free => true
  | _ => false
def gloB (sc : Scope) (x : Str) : Bool := match sc.names.lookup x with
  | some .globalImplicit => true
  | _ => false
def stoB (sc : Scope) (x : Str) : Bool := match sc.names.lookup x with
  | some .local => true
  | some .cell => true
  | _ => false
def locB (sc : Scope) (x : Str) : Bool := match sc.names.lookup x with
  | some .local => true
  | _ => false
def ixOf (N : List Str) (x : Str) : Option Nat := match N with
  | [] => none
  | y :: r => if y = x then some 0 else (ixOf r x).map (· + 1)
def bopOf : Operator → Option Bop
  | .Add => some .add | .Sub => some .sub | .Mult => some .mul | .FloorDiv => some .fdiv | .Mod => some .mod
  | .BitAnd => some .band | .BitOr => some .bor | .BitXor => some .bxor | .LShift => some .shl | .RShift => some .shr
  | _ => none
def copOf : CmpOp → Cop
  | .Eq => .eq | .NotEq => .ne | .Lt => .lt | .LtE => .le | .Gt => .gt | .GtE => .ge | .Is => .is | .IsNot => .isn | .In => .inn | .NotIn => .nin
def okName (x : Str) : Bool := !(x == ("__debug__" : Str)) && !(x == ("__classdict__" : Str)) && !(x == ("__name__" : Str))
def noStar : Expr → Bool
  | .Starred _ _ => false
  | _ => true
def noSet : Expr → Bool
  | .Set _ _ _ => false
  | _ => true
def noSlice : Expr → Bool
  | .Slice _ _ _ _ => false
  | _ => true
def noCall0 : Expr → Bool
  | .Call _ [] [] _ => false
  | _ => true
def isComp : Expr → Bool
  | .ListComp _ _ _ _ => true
  | .SetComp _ _ _ _ => true
  | .DictComp _ _ _ _ _ => true
  | _ => false
def b1Of (x : Str) : Option B1 :=
  if x = "abs" then some .abs else if x = "int" then some .int else if x = "bool" then some .bool else if x = "len" then some .len else if x = "sum" then some .sum else
  if x = "any" then some .any else if x = "all" then some .all else if x = "min" then some .min else if x = "max" then some .max else if x = "tuple" then some .tuple else
  if x = "list" then some .list else if x = "sorted" then some .sorted else none
def relSc (scope sc : Scope) : Scope :=
  { scope with names := scope.names.map fun (n, k) => if (k == .free && sc.kind == .function && sc.names.lookup n == some .cell) then (n, .cell) else (n, k) }
def ownOf (N : List Str) : List (Str × NameKind) → List (Str × Nat)
  | [] => []
  | (x, k) :: r => match k with
    | .local => (match ixOf N x with | some i => [(x, i)] | none => []) ++ ownOf N r
    | .cell => (match ixOf N x with | some i => [(x, i)] | none => []) ++ ownOf N r
    | _ => ownOf N r
def blkB (N : List Str) (sc scope : Scope) (own : List (Str × Nat)) : Bool :=
  (match scope.kind with | .function => true | _ => false) && (scope.names.all fun y => decide (scope.names.lookup y.1 = some y.2)) && (own.all fun p => decide (N[p.2]? = some p.1)) &&
    (scope.names.all fun y => match y.2 with
      | .free => (match sc.names.lookup y.1 with | some .cell => true | some .free => true | _ => false)
      | .local => decide (y.1 ∈ own.map (·.1)) || decide (y.1 ∉ N)
      | .cell => decide (y.1 ∈ own.map (·.1)) || decide (y.1 ∉ N)
      | _ => true)
def SC.blk (S : SC) (scope : Scope) : SC := { N := S.N, sc := relSc scope S.sc, raw := scope, own := [], fr := false }
def litOf : Const → Option D
  | .none => some .non
  | .bool b => some (.bl b)
  | .int i => some (.int i)
  | .str s => some (.str s.cps.toList)
  | _ => none
def slotsT : Tg → List Nat
  | .name i => [i]
  | .tup ts => slotsL ts
where slotsL : List Tg → List Nat
  | [] => []
  | t :: r => slotsT t ++ slotsL r
def toCEs : List CE → CEs
  | [] => .nil
  | e :: r => .cons e (toCEs r)
/-- the built-in x is to be had here -/
def isTupE : Expr → Bool
  | .Tuple _ _ _ => true
  | _ => false
def unOwn : CI → CI
  | .own i => .e (.var i)
  | c => c
def bltB (G : GI) (S : SC) (x : Str) : Bool := gloB S.sc x && G.free.contains x && okName x
def fnIx (fns : List (Str × Fk × Nat)) (x : Str) : Option Nat := match fns with
  | [] => none
  | (y, _) :: r => if y = x then some 0 else (fnIx r x).map (· + 1)
/-- the slot of a name that may be read -/
def slotOf (S : SC) (x : Str) : Option Nat := if visB S.sc x && okName x then ixOf S.N x else none
def slotSt (S : SC) (x : Str) : Option Nat := if stoB S.raw x && visB S.sc x && okName x then ixOf S.N x else none

mutual
def cT : Nat → SC → Expr → Option Tg
  | 0, _, _ => none
  | n + 1, S, e => match e with
    | .Name x _ => (slotSt S x).map .name
    | .Tuple es _ _ => (cTs n S es).map .tup
    | _ => none
def cTs : Nat → SC → List Expr → Option (List Tg)
  | 0, _, _ => none
  | n + 1, S, es => match es with
    | [] => some []
    | e :: r => match cT n S e with
      | none => none
      | some t => (cTs n S r).map (t :: ·)
end

section
variable (G : GI)
mutual
def cE : Nat → SC → Expr → Option CE
  | 0, _, _ => none
  | n + 1, S, e => match e with
    | .Constant c _ _ => (litOf c).map .lit
    | .Name x _ => match slotOf S x with
      | some i => some (.var i)
      | none => if gloB S.sc x && okName x then (G.consts.lookup x).map .lit else none
    | .BinOp a op b _ => match bopOf op, cE n S a, cE n S b with
      | some o, some ca, some cb => some (.bin o ca cb)
      | _, _, _ => none
    | .UnaryOp .USub a _ => (cE n S a).map .neg
    | .UnaryOp .Not a _ => (cE n S a).map .nott
    | .BoolOp op vs pos => match vs with
      | [] => none
      | [a] => cE n S a
      | a :: b :: r => match cE n S a, cE n S (.BoolOp op (b :: r) pos) with
        | some ca, some cb => some (match op with | .And => .andt ca cb | .Or => .ort ca cb)
        | _, _ => none
    | .Compare a ops cs _ => match ops, cs with
      | [op], [b] => if noSet b then match cE n S a, cE n S b with
        | some ca, some cb => some (.cmp (copOf op) ca cb)
        | _, _ => none
        else none
      | [op, p], [b, c] => if noSet c then match cE n S a, cE n S b, cE n S c with
        | some ca, some cb, some cc => some (.chain (copOf op) (copOf p) ca cb cc)
        | _, _, _ => none
        else none
      | _, _ => none
    | .IfExp c a b _ => match cE n S c, cE n S a, cE n S b with
      | some cc, some ca, some cb => some (.ite cc ca cb)
      | _, _, _ => none
    | .Tuple es _ _ => (cL n S es).map fun r => .tup (toCEs r)
    | .List es _ => (cL n S es).map fun r => .lst (toCEs r)
    | .Dict ks vs _ => match ks, vs with
      | [], [] => some (.dct .nil)
      | _, _ => (cP n S ks vs).map .dct
    | .ListComp elt gs scope _ => match gs with
      | [⟨tg, it, ifs, 0⟩] =>
        if blkB S.N S.sc scope (ownOf S.N scope.names) then
          match cI n S it, cT n (S.blk scope) tg, cE n (S.blk scope) elt, cIf n (S.blk scope) ifs with
          | some ci, some ct, some ce, some cf => if (slotsT ct).all (fun i => ((ownOf S.N scope.names).map (·.2)).contains i) then some (.lc ce ct ci ((ownOf S.N scope.names).map (·.2)) cf) else none
          | _, _, _, _ => none
        else none
      | [⟨tg, it, ifs, 0⟩, ⟨tg2, it2, ifs2, 0⟩] =>
        if blkB S.N S.sc scope (ownOf S.N scope.names) then
          match cI n S it, cT n (S.blk scope) tg, cE n (S.blk scope) elt, cIf n (S.blk scope) ifs, cI n (S.blk scope) it2, cT n (S.blk scope) tg2, cIf n (S.blk scope) ifs2 with
          | some ci, some ct, some ce, some cf, some ci2, some ct2, some cf2 =>
            if (slotsT ct).all (fun i => ((ownOf S.N scope.names).map (·.2)).contains i) && (slotsT ct2).all (fun i => ((ownOf S.N scope.names).map (·.2)).contains i) then
              some (.lc2 ce ct ci cf ct2 (unOwn ci2) cf2 ((ownOf S.N scope.names).map (·.2)) (slotsT ct2)) else none
          | _, _, _, _, _, _, _ => none
        else none
      | _ => none
    | .Subscript a ix _ => match ix with
      | .Slice none none (some (.UnaryOp .USub (.Constant (.int 1) _ _) _)) _ => (cE n S a).map .rev
      | .Slice lo hi none _ => match cE n S a, cO n S lo, cO n S hi with
        | some ca, some cl, some ch => some (.sl ca cl ch)
        | _, _, _ => none
      | .Slice _ _ _ _ => none
      | _ => match cE n S a, cE n S ix with
        | some ca, some ci => some (.ix ca ci)
        | _, _ => none
    | .Call f args kws cpos => match kws with
      | [] => match f with
        | .Name x _ => match fnIx G.fns x with
          | some j => if gloB S.sc x && okName x then match G.fns[j]? with
              | some (_, k, np) => if args.length == np && Nat.ble 1 np then match k, args with
                  | .v, _ => (cL n S args).map fun r => .call j (toCEs r)
                  | .io, .Name y _ :: r => match slotOf S y, cL n S r with
                    | some i, some c => some (.callT j i (toCEs c))
                    | _, _ => none
                  | .ro, .Name y _ :: r => match slotOf S y, cL n S r with
                    | some i, some c => some (.callR j i (toCEs c))
                    | _, _ => none
                  | .rn, .Name y _ :: r => match slotOf S y, cL n S r with
                    | some i, some c => some (.callN j i (toCEs c))
                    | _, _ => none
                  | _, _ => none
                else none
              | none => none
            else none
          | none => if bltB G S x then match args with
              | [a] =>
                if x = "list" then match a with
                  | .Call (.Name y _) [b] [] _ => if y = "range" && bltB G S y && noStar b then (cE n S b).map .lstRng else (cE n S a).map (.b1 .list)
                  | _ => if noStar a then (cE n S a).map (.b1 .list) else none
                else if x = "tuple" then match a with
                  | .Call (.Name y _) [b] [] _ => if y = "reversed" && bltB G S y && noStar b then (cE n S b).map .trev else (cE n S a).map (.b1 .tuple)
                  | _ => if noStar a then (cE n S a).map (.b1 .tuple) else none
                else match b1Of x with
                  | some k => if noStar a then (cE n S a).map (.b1 k) else none
                  | none => none
              | [a, b] => if x = "min" && noStar a && noStar b then match cE n S a, cE n S b with
                  | some ca, some cb => some (.min2 ca cb)
                  | _, _ => none
                else if x = "max" && noStar a && noStar b then match cE n S a, cE n S b with
                  | some ca, some cb => some (.max2 ca cb)
                  | _, _ => none
                else none
              | _ => none
            else none
        | .Attribute o m apos => if !(apos.endLine == cpos.line) || !noCall0 o then none else match args with
          | [a] =>
            if !noStar a then none else
            if m = "append" then match o with
              | .Name x _ => match slotOf S x, cE n S a with
                | some i, some ca => some (.app i ca)
                | _, _ => none
              | _ => none
            else if m = "pop" then match o with
              | .Name x _ => match slotOf S x, cE n S a with
                | some i, some ca => some (.popAt i ca)
                | _, _ => none
              | _ => none
            else if m = "join" then match cE n S o, cE n S a with
              | some co, some ca => some (.join co ca)
              | _, _ => none
            else if m = "index" then match cE n S o, cE n S a with
              | some co, some ca => some (.index co ca)
              | _, _ => none
            else none
          | [] => if m = "pop" then match o with
              | .Name x _ => (slotOf S x).map .pop
              | _ => none
            else none
          | _ => none
        | _ => none
      | _ => none
    | _ => none
def cL : Nat → SC → List Expr → Option (List CE)
  | 0, _, _ => none
  | n + 1, S, es => match es with
    | [] => some []
    | e :: r => if noStar e then match cE n S e with
        | none => none
        | some c => (cL n S r).map (c :: ·)
      else none
def cO : Nat → SC → Option Expr → Option CO
  | 0, _, _ => none
  | n + 1, S, o => match o with
    | none => some .no
    | some e => (cE n S e).map .e
def cIf : Nat → SC → List Expr → Option CO
  | 0, _, _ => none
  | n + 1, S, es => match es with
    | [] => some .no
    | [e] => (cE n S e).map .e
    | _ => none
def cP : Nat → SC → List (Option Expr) → List Expr → Option CP
  | 0, _, _, _ => none
  | n + 1, S, ks, vs => match ks, vs with
    | [], [] => some .nil
    | some k :: kr, v :: vr => match cE n S k, cE n S v, cP n S kr vr with
      | some ck, some cv, some c => some (.cons ck cv c)
      | _, _, _ => none
    | _, _ => none
def cI : Nat → SC → Expr → Option CI
  | 0, _, _ => none
  | n + 1, S, e => match e with
    | .Name x _ => (slotOf S x).map .own
    | .Call (.Name x _) args [] _ =>
      if x = "range" && bltB G S x then match args with
        | [a] => if noStar a then (cE n S a).map .rng1 else none
        | [a, b] => if noStar a && noStar b then match cE n S a, cE n S b with
            | some ca, some cb => some (.rng2 ca cb)
            | _, _ => none
          else none
        | _ => none
      else (cE n S e).map .e
    | _ => if noSet e then (cE n S e).map .e else none
end
end

/-! ### statements -/
def ownM (S : SC) : List Expr → List CE → Option (List (Nat × Bool))
  | [], [] => some []
  | .Name x _ :: r, c :: cs => match slotSt S x, ownM S r cs with
    | some i, some l => some ((i, S.own.contains x && isFreshTop c) :: l)
    | _, _ => none
  | _, _ => none
def locN (sc : Scope) (x : Str) : Bool := match sc.names.lookup x with
  | some .local => true
  | _ => false
/-- a, b = x, y (and three of them): plain local names on one line, not all constants: stored one by one -/
def parB (sc : Scope) (ts vs : List Expr) : Bool := match ts, vs with
  | [.Name x px, .Name y py], [a, b] => (match sc.kind with | .function => true | _ => false) && locN sc x && locN sc y && py.line == px.line && decide (x ≠ y) && (!foldedForSure 8 a || !foldedForSure 8 b) && (!constantsAlone 8 a || !constantsAlone 8 b)
  | [.Name x px, .Name y py, .Name z pz], [a, b, c] => (match sc.kind with | .function => true | _ => false) && locN sc x && locN sc y && locN sc z && py.line == px.line && pz.line == px.line && decide (x ≠ y) && decide (x ≠ z) && decide (y ≠ z) &&
      (!foldedForSure 8 a || !foldedForSure 8 b || !foldedForSure 8 c) && (!constantsAlone 8 a || !constantsAlone 8 b || !constantsAlone 8 c)
  | _, _ => false
/-- a, b = x, y where some name is not a plain local one: by a tuple -/
def parC (sc : Scope) (ts vs : List Expr) : Bool := match ts, vs with
  | [.Name x _, .Name y _], [_, _] => !locN sc x || !locN sc y
  | [.Name x _, .Name y _, .Name z _], [_, _, _] => !locN sc x || !locN sc y || !locN sc z
  | _, _ => false
def toSs : List CS → CSs
  | [] => .nil
  | s :: r => .cons s (toSs r)

section
variable (G : GI)
mutual
def cS : Nat → SC → Stmt → Option CS
  | 0, _, _ => none
  | n + 1, S, st => match st with
    | .Pass _ => some .pass
    | .Break _ => some .brk
    | .Continue _ => some .cont
    | .Return none _ => if S.fr then none else some .retN
    | .Return (some e) _ => match cE G n S e with
      | some c => if S.fr then (if isFreshTop c then some (.retO c) else none) else some (.ret c)
      | none => none
    | .Raise _ _ _ => some .never
    | .Expr e _ => if isComp e then none else (cE G n S e).map .ex
    | .If c a b _ => match cE G n S c, cSs n S a, cSs n S b with
      | some cc, some ca, some cb => some (.ife cc (toSs ca) (toSs cb))
      | _, _, _ => none
    | .While c b o _ => match o with
      | [] => match cE G n S c, cSs n S b with
        | some cc, some cb => some (.whl cc (toSs cb))
        | _, _ => none
      | _ => none
    | .For t it b o _ => match o with
      | [] => if noSet it then match cT n S t, cI G n S it, cSs n S b with
          | some ct, some ci, some cb => some (.for_ ct ci (toSs cb))
          | _, _, _ => none
        else none
      | _ => none
    | .AugAssign t op e _ => match t, bopOf op with
      | .Name x _, some o => match slotSt S x, cE G n S e with
        | some i, some c => if o = .add || o = .sub then some (.aug i o c) else none
        | _, _ => none
      | _, _ => none
    | .Assign ts e _ => match ts with
      | [.Name x _] => match slotSt S x, cE G n S e with
        | some i, some c => if S.own.contains x && isFreshTop c then some (.asgO i c) else some (.asg (.name i) c)
        | _, _ => none
      | [.Subscript (.Name x _) k _] => if noSlice k && !isComp e then match slotOf S x, cE G n S k, cE G n S e with
          | some i, some ck, some c => some (.setix i ck c)
          | _, _, _ => none
        else none
      | [.Tuple tes _ _] => match e with
        | .Tuple es _ _ => if parB S.sc tes es || parC S.sc tes es then match cL G n S es with
          | some cs => match ownM S tes cs with
            | some l => some (.asgM l (toCEs cs))
            | none => none
          | none => none
          else none
        | _ => if isComp e then none else match cTs n S tes, cE G n S e with
          | some ct, some c => some (.asg (.tup ct) c)
          | _, _ => none
      | _ => none
    | _ => none
def cSs : Nat → SC → List Stmt → Option (List CS)
  | 0, _, _ => none
  | n + 1, S, ss => match ss with
    | [] => some []
    | s :: r => match cS n S s with
      | none => none
      | some c => (cSs n S r).map (c :: ·)
end
end
end Cv
end

section
/-! CvC: how the values of the core language stand in the heap; what an expression's and a statement's run leaves. -/
set_option autoImplicit false
set_option linter.all false
set_option maxRecDepth 100000
namespace Cv
open PySem PySem.Spec L2

section
variable (K : PySem.W.Frag)

/-- an object of exactly tuple, with no names of its own -/
def PlainT (o : Obj) : Prop := o.cls = .type "tuple" ∧ o.dict = none
def PTup (H : Hp) (a : Addr) (xs : List V) : Prop := ∃ o, H a = some (.frz o (.tup xs)) ∧ PlainT o
def KresT (a : Addr) (xs : List V) : Prop :=
  ∃ (o : Obj) (its : Array Value) (n : Nat), K.lookup a = some o ∧ o.cls = .type "tuple" ∧ o.dict = none ∧ o.data = .seq its n ∧ its.size ≤ sizeLine ∧ Vals xs its.toList
def KresL (a : Addr) (xs : List V) : Prop :=
  ∃ (o : Obj) (its : Array Value) (n : Nat), K.lookup a = some o ∧ o.cls = .type "list" ∧ o.dict = none ∧ o.data = .seq its n ∧ its.size ≤ sizeLine ∧ Vals xs its.toList
def FzT (H : Hp) (Z : Addr → Prop) (a : Addr) (xs : List V) : Prop := (¬ Z a ∧ PTup H a xs) ∨ KresT K a xs
def FzL (H : Hp) (Z : Addr → Prop) (a : Addr) (xs : List V) : Prop := ¬ Z a ∧ Rd H a (.lst xs)
/-- what a list that is only walked may be, too: the module's -/
def RoL (H : Hp) (Z : Addr → Prop) (a : Addr) (xs : List V) : Prop := (¬ Z a ∧ Rd H a (.lst xs)) ∨ KresL K a xs

def keyD : Key → D
  | .inl i => .int i
  | .inr x => .str x.cps.toList

mutual
/-- a value stands for a tree: nobody changes what it reads (Z: what may change) -/
def Rp (H : Hp) (Z : Addr → Prop) : D → V → Prop
  | .non, v => v = .non
  | .bl b, v => v = .bl b
  | .int i, v => v = .int i
  | .str s, v => v = .str ⟨s.toArray⟩
  | .tup ds, v => ∃ a vs, v = .ref a ∧ FzT K H Z a vs ∧ RpL H Z ds vs
  | .lst ds, v => ∃ a vs, v = .ref a ∧ FzL H Z a vs ∧ RpL H Z ds vs
  | .dic ks ws, v => ∃ (a : Addr) (kvs : List (Key × V)), v = .ref a ∧ (¬ Z a ∧ Rd H a (.dK kvs)) ∧ ks = kvs.map (fun p => keyD p.1) ∧ RpL H Z ws (kvs.map (·.2))
def RpL (H : Hp) (Z : Addr → Prop) : List D → List V → Prop
  | [], vs => vs = []
  | d :: ds, vs => ∃ v r, vs = v :: r ∧ Rp H Z d v ∧ RpL H Z ds r
end

/-- what stands in H and may not change stands so later, and may not change there -/
def Ft (H : Hp) (Z : Addr → Prop) (H' : Hp) (Z' : Addr → Prop) : Prop := ∀ b o, H b = some o → ¬ Z b → H' b = some o ∧ ¬ Z' b

/-- what stands at an object of the frame's own -/
def Ct (H : Hp) (Z : Addr → Prop) (a : Addr) : D → Prop
  | .lst ds => ∃ vs, H a = some (.lst vs) ∧ RpL K H Z ds vs
  | .dic ks ws => ∃ kvs : List (Key × V), H a = some (.dK kvs) ∧ ks = kvs.map (fun p => keyD p.1) ∧ RpL K H Z ws (kvs.map (·.2))
  | _ => False
end

section
variable {K : PySem.W.Frag} {H H' H'' : Hp} {Z Z' Z'' : Addr → Prop}

theorem Ft.refl : Ft H Z H Z := fun _ _ h n => ⟨h, n⟩
theorem Ft.trans (f : Ft H Z H' Z') (g : Ft H' Z' H'' Z'') : Ft H Z H'' Z'' := fun b o h n => let ⟨h', n'⟩ := f b o h n; g b o h' n'
theorem Ft.less (h : ∀ a, Z' a → Z a) : Ft H Z H Z' := fun b o e n => ⟨e, fun z => n (h b z)⟩
theorem Ft.same (s : Same H H') : Ft H Z H' Z := fun b o e n => ⟨s b o e, n⟩
/-- more is barred on both sides -/
theorem Ft.bar {E : Addr → Prop} (f : Ft H Z H' Z') : Ft H (fun a => Z a ∨ E a) H' (fun a => Z' a ∨ E a) := fun b o e n =>
  let ⟨h, m⟩ := f b o e fun z => n (.inl z); ⟨h, fun z => z.elim m fun q => n (.inr q)⟩

theorem Rd.ft {a : Addr} {u : HO} (f : Ft H Z H' Z') (n : ¬ Z a) (r : Rd H a u) : Rd H' a u ∧ ¬ Z' a := by
  rcases r with r | ⟨o, r⟩
  · exact ⟨.inl (f a _ r n).1, (f a _ r n).2⟩
  · exact ⟨.inr ⟨o, (f a _ r n).1⟩, (f a _ r n).2⟩
theorem FzT.ft {a : Addr} {xs : List V} (f : Ft H Z H' Z') (h : FzT K H Z a xs) : FzT K H' Z' a xs := by
  rcases h with ⟨n, o, r, q⟩ | h
  · exact .inl ⟨(f a _ r n).2, o, (f a _ r n).1, q⟩
  · exact .inr h
theorem FzL.ft {a : Addr} {xs : List V} (f : Ft H Z H' Z') (h : FzL H Z a xs) : FzL H' Z' a xs := ⟨(Rd.ft f h.1 h.2).2, (Rd.ft f h.1 h.2).1⟩
theorem RoL.ft {a : Addr} {xs : List V} (f : Ft H Z H' Z') (h : RoL K H Z a xs) : RoL K H' Z' a xs := by
  rcases h with ⟨n, r⟩ | h
  · exact .inl ⟨(Rd.ft f n r).2, (Rd.ft f n r).1⟩
  · exact .inr h
theorem FzT.sq {a : Addr} {xs : List V} (h : FzT K H Z a xs) : SqT K H a xs := h.elim (fun h => let ⟨_, o, r, _⟩ := h; .inl (.inr ⟨o, r⟩)) fun h => let ⟨o, its, n, h1, h2, _, h3, h4, h5⟩ := h; .inr ⟨o, its, n, h1, h2, h3, h4, h5⟩
theorem FzL.sq {a : Addr} {xs : List V} (h : FzL H Z a xs) : SqL K H a xs := .inl h.2
theorem RoL.sq {a : Addr} {xs : List V} (h : RoL K H Z a xs) : SqL K H a xs := h.elim (fun h => .inl h.2) .inr

mutual
theorem Rp.ft (f : Ft H Z H' Z') : ∀ (d : D) (v : V), Rp K H Z d v → Rp K H' Z' d v
  | .non, v, h => by simpa only [Rp] using h
  | .bl b, v, h => by simpa only [Rp] using h
  | .int i, v, h => by simpa only [Rp] using h
  | .str s, v, h => by simpa only [Rp] using h
  | .tup ds, v, h => by
    simp only [Rp] at h ⊢
    obtain ⟨a, vs, e, q, r⟩ := h
    exact ⟨a, vs, e, q.ft f, RpL.ft f ds vs r⟩
  | .lst ds, v, h => by
    simp only [Rp] at h ⊢
    obtain ⟨a, vs, e, q, r⟩ := h
    exact ⟨a, vs, e, q.ft f, RpL.ft f ds vs r⟩
  | .dic ks ws, v, h => by
    simp only [Rp] at h ⊢
    obtain ⟨a, kvs, e, ⟨q1, q2⟩, k, r⟩ := h
    exact ⟨a, kvs, e, ⟨(Rd.ft f q1 q2).2, (Rd.ft f q1 q2).1⟩, k, RpL.ft f ws _ r⟩
theorem RpL.ft (f : Ft H Z H' Z') : ∀ (ds : List D) (vs : List V), RpL K H Z ds vs → RpL K H' Z' ds vs
  | [], vs, h => by simpa only [RpL] using h
  | d :: ds, vs, h => by
    simp only [RpL] at h ⊢
    obtain ⟨v, r, e, q, t⟩ := h
    exact ⟨v, r, e, Rp.ft f d v q, RpL.ft f ds r t⟩
end
theorem Ct.ft {a : Addr} {d : D} (f : Ft H Z H' Z') (ha : ∀ o, H a = some o → H' a = some o) (h : Ct K H Z a d) : Ct K H' Z' a d := by
  cases d with
  | lst ds => obtain ⟨vs, e, r⟩ := h; exact ⟨vs, ha _ e, RpL.ft f _ _ r⟩
  | dic ks ws => obtain ⟨kvs, e, k, r⟩ := h; exact ⟨kvs, ha _ e, k, RpL.ft f _ _ r⟩
  | _ => exact h.elim
theorem Ct.there {a : Addr} {d : D} (h : Ct K H Z a d) : H a ≠ none := by
  cases d with
  | lst ds => obtain ⟨vs, e, _⟩ := h; rw [e]; simp
  | dic ks ws => obtain ⟨kvs, e, _⟩ := h; rw [e]; simp
  | _ => exact h.elim
/-- an object of the frame's own is let go: nobody changes it any more -/
theorem Ct.rp {a : Addr} {d : D} (h : Ct K H Z a d) (n : ¬ Z a) : Rp K H Z d (.ref a) := by
  cases d with
  | lst ds => obtain ⟨vs, e, r⟩ := h; simp only [Rp]; exact ⟨a, vs, rfl, ⟨n, .inl e⟩, r⟩
  | dic ks ws => obtain ⟨kvs, e, k, r⟩ := h; simp only [Rp]; exact ⟨a, kvs, rfl, ⟨n, .inl e⟩, k, r⟩
  | _ => exact h.elim

/-! ### lists of values -/
theorem RpL.length : ∀ {ds : List D} {vs : List V}, RpL K H Z ds vs → vs.length = ds.length
  | [], vs, h => by simp only [RpL] at h; subst h; rfl
  | d :: ds, vs, h => by
    simp only [RpL] at h
    obtain ⟨v, r, rfl, _, t⟩ := h
    rw [List.length_cons, List.length_cons, RpL.length t]
theorem RpL.nil : RpL K H Z [] [] := by simp only [RpL]
theorem RpL.cons {d : D} {v : V} {ds : List D} {vs : List V} (h : Rp K H Z d v) (t : RpL K H Z ds vs) : RpL K H Z (d :: ds) (v :: vs) := by simp only [RpL]; exact ⟨v, vs, rfl, h, t⟩
theorem RpL.inv {d : D} {ds : List D} {vs : List V} (h : RpL K H Z (d :: ds) vs) : ∃ v r, vs = v :: r ∧ Rp K H Z d v ∧ RpL K H Z ds r := by simpa only [RpL] using h
theorem RpL.inv0 {vs : List V} (h : RpL K H Z [] vs) : vs = [] := by simpa only [RpL] using h
theorem RpL.append : ∀ {ds es : List D} {vs us : List V}, RpL K H Z ds vs → RpL K H Z es us → RpL K H Z (ds ++ es) (vs ++ us)
  | [], _, _, _, h, t => by rw [h.inv0]; exact t
  | _ :: _, _, _, _, h, t => by
    obtain ⟨v, r, rfl, h1, h2⟩ := h.inv
    exact RpL.cons h1 (RpL.append h2 t)
theorem RpL.get : ∀ {ds : List D} {vs : List V} {i : Nat} {d : D}, RpL K H Z ds vs → ds[i]? = some d → ∃ v, vs[i]? = some v ∧ Rp K H Z d v
  | [], _, _, _, _, e => by simp at e
  | d' :: ds, vs, i, d, h, e => by
    obtain ⟨v, r, rfl, h1, h2⟩ := h.inv
    cases i with
    | zero => simp at e; subst e; exact ⟨v, rfl, h1⟩
    | succ i => simpa using RpL.get h2 (by simpa using e)
theorem RpL.set {d : D} {v : V} (h : Rp K H Z d v) : ∀ {ds : List D} {vs : List V} (i : Nat), RpL K H Z ds vs → RpL K H Z (ds.set i d) (vs.set i v)
  | [], _, _, t => by rw [t.inv0]; exact RpL.nil
  | _ :: _, _, i, t => by
    obtain ⟨u, r, rfl, h1, h2⟩ := t.inv
    cases i with
    | zero => exact RpL.cons h h2
    | succ i => exact RpL.cons h1 (RpL.set h i h2)
theorem RpL.drop : ∀ {ds : List D} {vs : List V} (n : Nat), RpL K H Z ds vs → RpL K H Z (ds.drop n) (vs.drop n)
  | _, _, 0, h => h
  | [], _, n + 1, h => by rw [h.inv0]; exact RpL.nil
  | _ :: _, _, n + 1, h => by
    obtain ⟨u, r, rfl, _, h2⟩ := h.inv
    exact RpL.drop n h2
theorem RpL.take : ∀ {ds : List D} {vs : List V} (n : Nat), RpL K H Z ds vs → RpL K H Z (ds.take n) (vs.take n)
  | _, _, 0, _ => RpL.nil
  | [], _, n + 1, h => by rw [h.inv0]; exact RpL.nil
  | _ :: _, _, n + 1, h => by
    obtain ⟨u, r, rfl, h1, h2⟩ := h.inv
    exact RpL.cons h1 (RpL.take n h2)
theorem RpL.reverse {ds : List D} {vs : List V} (h : RpL K H Z ds vs) : RpL K H Z ds.reverse vs.reverse := by
  induction ds generalizing vs with
  | nil => rw [h.inv0]; exact RpL.nil
  | cons d ds ih =>
    obtain ⟨u, r, rfl, h1, h2⟩ := h.inv
    rw [List.reverse_cons, List.reverse_cons]
    exact (ih h2).append (RpL.cons h1 RpL.nil)
theorem RpL.eraseIdx : ∀ {ds : List D} {vs : List V} (i : Nat), RpL K H Z ds vs → RpL K H Z (ds.eraseIdx i) (vs.eraseIdx i)
  | [], _, _, h => by rw [h.inv0]; exact RpL.nil
  | _ :: _, _, i, h => by
    obtain ⟨u, r, rfl, h1, h2⟩ := h.inv
    cases i with
    | zero => exact h2
    | succ i => exact RpL.cons h1 (RpL.eraseIdx i h2)
theorem RpL.dropLast {ds : List D} {vs : List V} (h : RpL K H Z ds vs) : RpL K H Z ds.dropLast vs.dropLast := by
  rw [List.dropLast_eq_take, List.dropLast_eq_take, h.length]
  exact h.take _
theorem RpL.rep {ds : List D} {vs : List V} (h : RpL K H Z ds vs) : ∀ n : Nat, RpL K H Z (repL ds n) (List.replicate n vs).flatten
  | 0 => RpL.nil
  | n + 1 => by
    rw [List.replicate_succ, List.flatten_cons]
    exact h.append (RpL.rep h n)
theorem RpL.ints : ∀ {ds : List D} {vs : List V} {ns : List Int}, RpL K H Z ds vs → intsOf ds = some ns → vs = ns.map V.int
  | [], _, _, h, e => by rw [h.inv0]; simp only [intsOf, Option.some.injEq] at e; subst e; rfl
  | d :: ds, _, ns, h, e => by
    obtain ⟨u, r, rfl, h1, h2⟩ := h.inv
    cases d with
    | int i =>
      simp only [intsOf] at e
      cases q : intsOf ds with
      | none => rw [q] at e; simp at e
      | some ms =>
        rw [q] at e
        simp only [Option.map_some, Option.some.injEq] at e
        subst e
        rw [RpL.ints h2 q]
        simp only [Rp] at h1
        rw [h1]
        rfl
    | _ => simp [intsOf] at e
theorem RpL.bools : ∀ {ds : List D} {vs : List V} {ns : List Bool}, RpL K H Z ds vs → boolsOf ds = some ns → vs = ns.map V.bl
  | [], _, _, h, e => by rw [h.inv0]; simp only [boolsOf, Option.some.injEq] at e; subst e; rfl
  | d :: ds, _, ns, h, e => by
    obtain ⟨u, r, rfl, h1, h2⟩ := h.inv
    cases d with
    | bl i =>
      simp only [boolsOf] at e
      cases q : boolsOf ds with
      | none => rw [q] at e; simp at e
      | some ms =>
        rw [q] at e
        simp only [Option.map_some, Option.some.injEq] at e
        subst e
        rw [RpL.bools h2 q]
        simp only [Rp] at h1
        rw [h1]
        rfl
    | _ => simp [boolsOf] at e
theorem RpL.strs : ∀ {ds : List D} {vs : List V} {ns : List (List Nat)}, RpL K H Z ds vs → strsOf ds = some ns → vs = ns.map (fun s => V.str ⟨s.toArray⟩)
  | [], _, _, h, e => by rw [h.inv0]; simp only [strsOf, Option.some.injEq] at e; subst e; rfl
  | d :: ds, _, ns, h, e => by
    obtain ⟨u, r, rfl, h1, h2⟩ := h.inv
    cases d with
    | str i =>
      simp only [strsOf] at e
      cases q : strsOf ds with
      | none => rw [q] at e; simp at e
      | some ms =>
        rw [q] at e
        simp only [Option.map_some, Option.some.injEq] at e
        subst e
        rw [RpL.strs h2 q]
        simp only [Rp] at h1
        rw [h1]
        rfl
    | _ => simp [strsOf] at e
end

/-! ### the state -/
def Own (σ : St) (env : Env) (i : Nat) (a : Addr) : Prop := (∃ d, env[i]? = some (.own d) ∨ env[i]? = some (.io d)) ∧ σ[i]? = some (some (.ref a))
def Ow (σ : St) (env : Env) (a : Addr) : Prop := ∃ i, Own σ env i a
def Zs (σ : St) (env : Env) (Ex : Addr → Prop) (a : Addr) : Prop := Ow σ env a ∨ Ex a

def SlotOk (K : PySem.W.Frag) (io : Nat → Option Addr) (Ex : Addr → Prop) (H : Hp) (σ : St) (Z : Addr → Prop) (i : Nat) : Sl → Prop
  | .no => True
  | .val d => ∃ v, σ[i]? = some (some v) ∧ Rp K H Z d v
  | .own d => ∃ a, σ[i]? = some (some (.ref a)) ∧ ¬ Ex a ∧ Ct K H Z a d
  | .io d => ∃ a, io i = some a ∧ σ[i]? = some (some (.ref a)) ∧ ¬ Ex a ∧ Ct K H Z a d
  | .ro d => ∃ a vs ds, d = .lst ds ∧ σ[i]? = some (some (.ref a)) ∧ RoL K H Z a vs ∧ RpL K H Z ds vs
  | .lent => ∃ a, σ[i]? = some (some (.ref a)) ∧ Ex a

structure Rel (K : PySem.W.Frag) (io : Nat → Option Addr) (Ex : Addr → Prop) (H : Hp) (σ : St) (env : Env) : Prop where
  len : env.length = σ.length
  slot : ∀ (i : Nat) (s : Sl), env[i]? = some s → SlotOk K io Ex H σ (Zs σ env Ex) i s
  inj : ∀ (i j : Nat) (a : Addr), Own σ env i a → Own σ env j a → i = j
  ext : ∀ a, Ex a → H a ≠ none

section
variable {K : PySem.W.Frag} {io : Nat → Option Addr} {Ex Ex' : Addr → Prop} {H H' H'' : Hp} {σ σ' σ'' : St} {env env' env'' : Env} {Z Z' : Addr → Prop}

theorem SlotOk.ft {i : Nat} {s : Sl} (h : SlotOk K io Ex H σ Z i s) (hs : σ'[i]? = σ[i]?) (f : Ft H Z H' Z')
    (hc : ∀ a, (∃ d, s = .own d ∨ s = .io d) → σ[i]? = some (some (.ref a)) → (∀ o, H a = some o → H' a = some o) ∧ ¬ Ex' a)
    (hl : ∀ a, s = .lent → σ[i]? = some (some (.ref a)) → Ex a → Ex' a) : SlotOk K io Ex' H' σ' Z' i s := by
  cases s with
  | no => trivial
  | val d => obtain ⟨v, e, r⟩ := h; exact ⟨v, hs.trans e, Rp.ft f _ _ r⟩
  | own d => obtain ⟨a, e, n, c⟩ := h; exact ⟨a, hs.trans e, (hc a ⟨d, .inl rfl⟩ e).2, c.ft f (hc a ⟨d, .inl rfl⟩ e).1⟩
  | io d => obtain ⟨a, e0, e, n, c⟩ := h; exact ⟨a, e0, hs.trans e, (hc a ⟨d, .inr rfl⟩ e).2, c.ft f (hc a ⟨d, .inr rfl⟩ e).1⟩
  | ro d => obtain ⟨a, vs, ds, e0, e, r, q⟩ := h; exact ⟨a, vs, ds, e0, hs.trans e, r.ft f, RpL.ft f _ _ q⟩
  | lent => obtain ⟨a, e, x⟩ := h; exact ⟨a, hs.trans e, hl a rfl e x⟩

theorem Rel.ow (R : Rel K io Ex H σ env) {i : Nat} {a : Addr} (h : Own σ env i a) : ¬ Ex a ∧ ∃ d, (env[i]? = some (.own d) ∨ env[i]? = some (.io d)) ∧ Ct K H (Zs σ env Ex) a d := by
  obtain ⟨⟨d, h1⟩, h2⟩ := h
  rcases h1 with h1 | h1
  · obtain ⟨b, e, n, c⟩ := R.slot i _ h1
    rw [h2] at e
    cases e
    exact ⟨n, d, .inl h1, c⟩
  · obtain ⟨b, _, e, n, c⟩ := R.slot i _ h1
    rw [h2] at e
    cases e
    exact ⟨n, d, .inr h1, c⟩
theorem Rel.there (R : Rel K io Ex H σ env) {a : Addr} (h : Zs σ env Ex a) : H a ≠ none := by
  rcases h with ⟨i, h⟩ | h
  · obtain ⟨_, d, _, c⟩ := R.ow h
    exact c.there
  · exact R.ext a h

/-- behind a step -/
structure Pst (K : PySem.W.Frag) (io : Nat → Option Addr) (Ex : Addr → Prop) (H : Hp) (σ : St) (env : Env) (H' : Hp) (σ' : St) (env' : Env) : Prop where
  rel : Rel K io Ex H' σ' env'
  ft : Ft H (Ow σ env) H' (Ow σ' env')
  lent : ∀ (i : Nat), env'[i]? = some .lent → env[i]? = some .lent ∧ σ'[i]? = σ[i]?
theorem Pst.zs (p : Pst K io Ex H σ env H' σ' env') : Ft H (Zs σ env Ex) H' (Zs σ' env' Ex) := p.ft.bar
theorem Pst.trans (p : Pst K io Ex H σ env H' σ' env') (q : Pst K io Ex H' σ' env' H'' σ'' env'') : Pst K io Ex H σ env H'' σ'' env'' := ⟨q.rel, p.ft.trans q.ft, fun i h => ⟨(p.lent i (q.lent i h).1).1, (q.lent i h).2.trans (p.lent i (q.lent i h).1).2⟩⟩
theorem Pst.refl (R : Rel K io Ex H σ env) : Pst K io Ex H σ env H σ env := ⟨R, Ft.refl, fun _ h => ⟨h, rfl⟩⟩

/-- all slots as they were, over another heap, with other bars -/
theorem Rel.re (R : Rel K io Ex H σ env) (f : Ft H (Zs σ env Ex) H' (Zs σ env Ex')) (hc : ∀ a, Ow σ env a → (∀ o, H a = some o → H' a = some o) ∧ ¬ Ex' a)
    (hl : ∀ (i : Nat) (a : Addr), env[i]? = some .lent → σ[i]? = some (some (.ref a)) → Ex a → Ex' a) (hex : ∀ a, Ex' a → H' a ≠ none) : Rel K io Ex' H' σ env :=
  ⟨R.len, fun i s h => (R.slot i s h).ft rfl f (fun a q e => hc a ⟨i, by
    obtain ⟨d, q⟩ := q
    refine ⟨⟨d, ?_⟩, e⟩
    rcases q with q | q
    · exact .inl (by rw [h, q])
    · exact .inr (by rw [h, q])⟩) fun a q e x => hl i a (by rw [h, q]) e x, R.inj, hex⟩
/-- a heap that holds all that was tracked -/
theorem Rel.same (R : Rel K io Ex H σ env) (s : Same H H') : Rel K io Ex H' σ env :=
  R.re (Ft.same s) (fun a h => ⟨fun o q => s a o q, fun z => by obtain ⟨i, h⟩ := h; exact (R.ow h).1 z⟩) (fun _ _ _ _ x => x) fun a h z => by
    cases q : H a with
    | none => exact R.ext a h q
    | some o => rw [s a o q] at z; cases z
theorem Rel.pst_same (R : Rel K io Ex H σ env) (s : Same H H') : Pst K io Ex H σ env H' σ env := ⟨R.same s, Ft.same s, fun _ h => ⟨h, rfl⟩⟩
theorem same_upd {p : Addr} {o : HO} (n : H p = none) : Same H (upd H p o) := fun b u e => by
  rw [upd_ne (ne_of_none e n)]
  exact e

/-- one slot is another -/
theorem Rel.alter (R : Rel K io Ex H σ env) (i : Nat) (hl : env'.length = σ'.length) (he : ∀ (j : Nat), j ≠ i → env'[j]? = env[j]?) (hs : ∀ (j : Nat), j ≠ i → σ'[j]? = σ[j]?) (f : Ft H (Zs σ env Ex) H' (Zs σ' env' Ex'))
    (hc : ∀ (j : Nat) (a : Addr), j ≠ i → Own σ env j a → (∀ o, H a = some o → H' a = some o) ∧ ¬ Ex' a) (hle : ∀ (j : Nat) (a : Addr), j ≠ i → env[j]? = some .lent → σ[j]? = some (some (.ref a)) → Ex a → Ex' a) (hex : ∀ a, Ex' a → H' a ≠ none)
    (hi : ∀ s, env'[i]? = some s → SlotOk K io Ex' H' σ' (Zs σ' env' Ex') i s) (hj : ∀ a, Own σ' env' i a → ∀ (j : Nat), j ≠ i → ¬ Own σ env j a) : Rel K io Ex' H' σ' env' := by
  have ho : ∀ {j : Nat} {a : Addr}, j ≠ i → Own σ' env' j a → Own σ env j a := fun {j a} n h => by
    obtain ⟨⟨d, h1⟩, h2⟩ := h
    rw [he j n] at h1
    rw [hs j n] at h2
    exact ⟨⟨d, h1⟩, h2⟩
  refine ⟨hl, fun j s h => ?_, fun j k a h1 h2 => ?_, hex⟩
  · by_cases n : j = i
    · subst n; exact hi s h
    · rw [he j n] at h
      refine (R.slot j s h).ft (hs j n) f (fun a q e => hc j a n ?_) fun a q e x => hle j a n (by rw [h, q]) e x
      obtain ⟨d, q⟩ := q
      refine ⟨⟨d, ?_⟩, e⟩
      rcases q with q | q
      · exact .inl (by rw [h, q])
      · exact .inr (by rw [h, q])
  · by_cases n1 : j = i
    · by_cases n2 : k = i
      · rw [n1, n2]
      · subst n1; exact absurd (ho n2 h2) (hj a h1 k n2)
    · by_cases n2 : k = i
      · subst n2; exact absurd (ho n1 h1) (hj a h2 j n1)
      · exact R.inj j k a (ho n1 h1) (ho n2 h2)

theorem set_at {α : Type} {l : List α} {i : Nat} {x y : α} (h : l[i]? = some y) : (l.set i x)[i]? = some x := by
  rw [List.getElem?_set_self]
  exact (List.getElem?_eq_some_iff.mp h).1
theorem set_off {α : Type} {l : List α} {i j : Nat} {x : α} (h : j ≠ i) : (l.set i x)[j]? = l[j]? := List.getElem?_set_ne (Ne.symm h)

/-- an own list or dict is let go -/
theorem Rel.freeze {i : Nat} {d : D} (R : Rel K io Ex H σ env) (h : env[i]? = some (.own d)) :
    ∃ a, σ[i]? = some (some (.ref a)) ∧ Pst K io Ex H σ env H σ (env.set i (.val d)) ∧ Rp K H (Zs σ (env.set i (.val d)) Ex) d (.ref a) := by
  obtain ⟨a, e, n, c⟩ := R.slot i _ h
  have off : ∀ j, j ≠ i → (env.set i (.val d))[j]? = env[j]? := fun j hj => set_off hj
  have at' : (env.set i (.val d))[i]? = some (.val d) := set_at h
  have less : ∀ b, Ow σ (env.set i (.val d)) b → Ow σ env b ∧ b ≠ a := fun b ⟨j, ⟨⟨d', q⟩, e'⟩⟩ => by
    by_cases hj : j = i
    · subst hj
      rw [at'] at q
      rcases q with q | q <;> cases q
    · rw [off j hj] at q
      refine ⟨⟨j, ⟨d', q⟩, e'⟩, fun z => hj ?_⟩
      subst z
      exact R.inj j i b ⟨⟨d', q⟩, e'⟩ ⟨⟨d, .inl h⟩, e⟩
  have f : Ft H (Zs σ env Ex) H (Zs σ (env.set i (.val d)) Ex) := Ft.less fun b z => z.elim (fun z => .inl (less b z).1) .inr
  have na : ¬ Zs σ (env.set i (.val d)) Ex a := fun z => z.elim (fun z => (less a z).2 rfl) n
  have rp : Rp K H (Zs σ (env.set i (.val d)) Ex) d (.ref a) := (c.ft f fun o q => q).rp na
  refine ⟨a, e, ⟨?_, Ft.less fun b z => (less b z).1, fun j q => ?_⟩, rp⟩
  refine R.alter i (by rw [List.length_set]; exact R.len) off (fun _ _ => rfl) f (fun j b hj o => ⟨fun o q => q, (R.ow o).1⟩) (fun _ _ _ _ _ x => x) R.ext (fun s q => ?_) fun b o => ?_
  · rw [at'] at q
    cases q
    exact ⟨_, e, rp⟩
  · obtain ⟨⟨d', q⟩, _⟩ := o
    rw [at'] at q
    rcases q with q | q <;> cases q
  · by_cases hj : j = i
    · subst hj
      rw [at'] at q
      cases q
    · rw [off j hj] at q
      exact ⟨q, rfl⟩

/-- a slot of the same kind -/
def PutS (d d' : D) (s s' : Sl) : Prop := (s = .own d ∧ s' = .own d') ∨ (s = .io d ∧ s' = .io d')
theorem own_put {i : Nat} {d d' : D} {s s' : Sl} (h : env[i]? = some s) (hs : PutS d d' s s') (j : Nat) (b : Addr) : Own σ (env.set i s') j b ↔ Own σ env j b := by
  have off : ∀ j, j ≠ i → (env.set i s')[j]? = env[j]? := fun j hj => set_off hj
  have at' : (env.set i s')[i]? = some s' := set_at h
  unfold Own
  by_cases hj : j = i
  · subst hj
    rw [at', h]
    refine and_congr_left fun _ => ⟨fun _ => ?_, fun _ => ?_⟩ <;> rcases hs with ⟨rfl, rfl⟩ | ⟨rfl, rfl⟩
    · exact ⟨d, .inl rfl⟩
    · exact ⟨d, .inr rfl⟩
    · exact ⟨d', .inl rfl⟩
    · exact ⟨d', .inr rfl⟩
  · rw [off j hj]
/-- the object of a name, changed -/
theorem Rel.poke {i : Nat} {d d' : D} {s s' : Sl} {a : Addr} (R : Rel K io Ex H σ env) (h : env[i]? = some s) (hs : PutS d d' s s') (e : σ[i]? = some (some (.ref a))) (sm : ∀ b u, H b = some u → b ≠ a → H' b = some u)
    (c : Ct K H' (Zs σ env Ex) a d') : Pst K io Ex H σ env H' σ (env.set i s') := by
  have off : ∀ j, j ≠ i → (env.set i s')[j]? = env[j]? := fun j hj => set_off hj
  have at' : (env.set i s')[i]? = some s' := set_at h
  have ai : Own σ env i a := ⟨by
    rw [h]
    rcases hs with ⟨rfl, _⟩ | ⟨rfl, _⟩
    · exact ⟨d, .inl rfl⟩
    · exact ⟨d, .inr rfl⟩, e⟩
  have iff := own_put (σ := σ) h hs
  have ow : ∀ b, Ow σ (env.set i s') b → Ow σ env b := fun b ⟨j, o⟩ => ⟨j, (iff j b).1 o⟩
  have zs : ∀ b, Zs σ (env.set i s') Ex b → Zs σ env Ex b := fun b z => z.imp (ow b) _root_.id
  have f : Ft H (Zs σ env Ex) H' (Zs σ (env.set i s') Ex) := fun b u q n => ⟨sm b u q fun z => by subst z; exact n (.inl ⟨i, ai⟩), fun z => n (zs b z)⟩
  have c' : Ct K H' (Zs σ (env.set i s') Ex) a d' := c.ft (Ft.less zs) fun _ q => q
  refine ⟨R.alter i (by rw [List.length_set]; exact R.len) off (fun _ _ => rfl) f (fun j b hj o => ⟨fun u q => sm b u q fun z => by subst z; exact hj (R.inj j i b o ai), (R.ow o).1⟩) (fun _ _ _ _ _ x => x)
    (fun b x => ?_) (fun t q => ?_) fun b o j hj o' => hj (R.inj j i b o' ((iff i b).1 o)), fun b u q n => ⟨sm b u q fun z => by subst z; exact n ⟨i, ai⟩, fun z => n (ow b z)⟩, fun j q => ?_⟩
  · cases q : H b with
    | none => exact absurd q (R.ext b x)
    | some u => rw [sm b u q fun z => by subst z; exact (R.ow ai).1 x]; simp
  · rw [at'] at q
    cases q
    have sl := R.slot i _ h
    rcases hs with ⟨rfl, rfl⟩ | ⟨rfl, rfl⟩
    · obtain ⟨b, e', n, _⟩ := sl
      rw [e] at e'
      cases e'
      exact ⟨a, e, n, c'⟩
    · obtain ⟨b, e0, e', n, _⟩ := sl
      rw [e] at e'
      cases e'
      exact ⟨a, e0, e, n, c'⟩
  · by_cases hj : j = i
    · subst hj
      rw [at'] at q
      cases q
      rcases hs with ⟨_, e⟩ | ⟨_, e⟩ <;> cases e
    · rw [off j hj] at q
      exact ⟨q, rfl⟩
end
end Cv
end

section
/-! CvC2: rules that make tuples, told with their object (no names of its own). -/
set_option autoImplicit false
set_option linter.all false
set_option maxRecDepth 100000
namespace Cv
open PySem PySem.Spec L2
section
variable {X : Cx} {pins : List (Addr × Obj)} {σ : St} {H : Hp} {s : Shared}
theorem tlaid {a : Addr} {o : Obj} {h' : Heap} {t' : Nat} {its : List Value} {n : Nat} {ys : List V} (I : Inv X pins σ H s) (k : ∀ b u, s.heap.get? b = some u → h'.get? b = some u) (hp : s.heap.objs.size ≤ a)
    (e : h'.get? a = some o) (hc : o.cls = .type "tuple") (hd : o.data = .seq its.toArray n) (hv : Vals ys its) (hz : ys.length ≤ sizeLine) : Inv X pins σ (upd H a (.frz o (.tup ys))) { s with heap := h', toks := t' } :=
  I.laid k hp ⟨e, hz, its, hv, o, e, hc, n, hd⟩
def NewT (xs : List V) (H : Hp) (Q : VK) : Prop := ∀ p o, H p = none → PlainT o → Q (.ref p) (upd H p (.frz o (.tup xs)))
/-- the tuple just pushed -/
theorem tpush {t' : Nat} {its : List Value} {ys : List V} {Q : VK} (I : Inv X pins σ H s) (hv : Vals ys its) (hz : ys.length ≤ sizeLine) (q : NewT ys H Q) :
    EP X pins σ Q (.ref s.heap.objs.size) { s with heap := s.heap.push { cls := .type "tuple", data := .seq its.toArray }, toks := t' } :=
  ⟨.ref s.heap.objs.size, _, tlaid I (fun b u e => Heap.get?_push_of_some _ e) (Nat.le_refl _) (Heap.get?_push_size _ rfl) rfl rfl hv hz, rfl, q _ _ (I.hok.fresh (Nat.le_refl _)) ⟨rfl, rfl⟩⟩
theorem pe_tupF {es : List Expr} {t : TA} {x1 : Nat} {pos : Pos} (h : PA X es t) : PE X (.Tuple es x1 pos) (fun σ H Q => t σ H fun xs H1 => xs.length ≤ sizeLine ∧ NewT xs H1 Q) :=
  ⟨fun pins s σ H Q I hq => wpAny_Tuple_spliced (thn (h.run pos pins s σ H _ I hq) fun us s1 ⟨xs, H1, I1, r, z, q⟩ => ⟨by rw [← r.length]; exact z, tpush (t' := s1.toks) I1 r z q⟩)⟩
theorem op_catF : OpR X (binaryOp .Add) (fun x y H Q => ∃ a b xs ys, x = .ref a ∧ y = .ref b ∧ SqT X.K H a xs ∧ SqT X.K H b ys ∧ xs.length + ys.length ≤ sizeLine ∧ (xs = [] → Q (.ref b) H) ∧ (xs ≠ [] → ys = [] → Q (.ref a) H) ∧ (xs ≠ [] → ys ≠ [] → NewT (xs ++ ys) H Q)) := by
  intro pins s σ H x y v u Q I rx ry ⟨a, b, xs, ys, ex, ey, ha, hb, hz, q0, q1, q2⟩
  by_cases hx : xs = []
  · exact op_catA pins s σ H _ _ v u Q I rx ry ⟨a, b, xs, ys, ex, ey, ha, hb, hz, q0, q1, fun z => absurd hx z⟩
  subst ex
  subst ey
  cases rx
  cases ry
  obtain ⟨i1, r1, p1, _⟩ := I.tuple ha
  obtain ⟨i2, r2, p2, _⟩ := I.tuple hb
  refine HT.cat_tup p1 p2 (fun z => hx (r1.nil_iff.mp z)) (fun z => ⟨.ref a, H, I, rfl, q1 hx (r2.nil_iff.mp z)⟩) (fun z => ?_) (by rw [← r1.length, ← r2.length]; exact hz)
  exact tpush (t' := s.toks) I (r1.append r2) (by rw [List.length_append]; exact hz) (q2 hx fun w => z (r2.nil_iff.mpr w))
theorem sl_tupF : SlR X (fun x lo hi H Q => ∃ a xs, x = .ref a ∧ SqT X.K H a xs ∧ (HT.sIx xs.length 0 lo = 0 ∧ HT.sIx xs.length xs.length hi = xs.length → Q (.ref a) H) ∧
    (¬ (HT.sIx xs.length 0 lo = 0 ∧ HT.sIx xs.length xs.length hi = xs.length) → NewT (cutV xs lo hi) H Q)) := by
  intro pins s σ H x v vl vu lo hi sl Q I rx hs pl pu ⟨a, xs, ex, hx, q1, q2⟩
  by_cases hw : HT.sIx xs.length 0 lo = 0 ∧ HT.sIx xs.length xs.length hi = xs.length
  · exact sl_tupA pins s σ H x v vl vu lo hi sl Q I rx hs pl pu ⟨a, xs, ex, hx, q1, fun z => absurd hw z⟩
  subst ex
  cases rx
  obtain ⟨its, r, ht, hz⟩ := I.tuple hx
  have hl : its.toArray.size = xs.length := by rw [List.size_toArray, r.length]
  refine ⟨"tuple", _, PyProof.Rows.slot_tuple_getitem.lookup, ht.typeIs, HT.getItem_tuple_cut ht hs pl pu (by rw [hl]; exact hw) ?_ (by rw [hl]; exact hz)⟩
  rw [hl]
  exact tpush (t' := s.toks) I ((r.drop _).take _) (Nat.le_trans (cutV_length xs lo hi) hz) (q2 hw)
theorem call_tupleF : CallR X (.type "tuple") (fun xs H Q => ∃ p ys, xs = [.ref p] ∧ ((SqL X.K H p ys ∧ NewT ys H Q) ∨ (SqT X.K H p ys ∧ Q (.ref p) H))) := by
  intro pins s σ H xs us Q I r ⟨p, ys, ex, h⟩
  rcases h with ⟨hq, q⟩ | ⟨hq, q⟩
  · subst ex
    obtain ⟨u, rfl, rx⟩ := vals1 r
    cases rx
    obtain ⟨its, r', pl, hz⟩ := I.list hq
    refine call_tuple_list pl.isList (fun h' kp => ?_) (by rw [List.size_toArray, ← r'.length]; exact hz)
    have I1 : Inv X pins σ H { s with heap := h' } := I.kept (t' := s.toks) kp
    exact tpush (t' := s.toks) I1 r' hz q
  · exact call_tuple_of pins s σ H _ us Q I r ⟨p, ys, ex, .inr ⟨hq, q⟩⟩
end
end Cv
end

section
/-! CvRv: tuple(reversed(x)), x a tuple. -/
set_option autoImplicit false
set_option linter.all false
set_option maxRecDepth 100000
set_option maxHeartbeats 1000000
namespace Cv
open PySem PySem.Spec L2
/-! ### the hint of length -/
theorem rv_len0 : typeLookup (.type "reversed") "__len__" = pure none := by rw [typeLookup_type, builtinLookup_eq_fast]; kernel_rfl
theorem rv_hint : typeLookup (.type "reversed") "__length_hint__" = pure (some (.builtin "reversed.__length_hint__")) := by
  rw [typeLookup_type, builtinLookup_eq_fast]
  kernel_rfl
theorem rv_slot : Slot "reversed" "__length_hint__" "reversed.__length_hint__" := by
  refine .of (owner := "reversed") (n := "__length_hint__") rv_hint ?_ ?_ ?_ ?_ ?_
  · decide +kernel
  · decide +kernel
  · decide +kernel
  · first
      | exact .inl (by decide +kernel)
      | exact .inr (by decide +kernel)
  · rw [isSubtype_type]
    kernel_rfl
theorem rv_entry : entryFor table "reversed.__length_hint__" = some Builtin.«reversed.__length_hint__» := entryFor_of_tree (by kernel_rfl)
theorem rv_args (a : Value) : argsOk "reversed.__length_hint__" ⟨[a], []⟩ := by
  unfold argsOk
  rw [signature?_of (id := "reversed.__length_hint__") (n := ['_', '_', 't', 'n', 'i', 'h', '_', 'h', 't', 'g', 'n', 'e', 'l', '_', '_']) (o := ['d', 'e', 's', 'r', 'e', 'v', 'e', 'r']) (by kernel_rfl) RT.owner_rt]
  kernel_rfl
section
variable {prog : Program} {w : World} {A : Around} {E : Value → Shared → Prop} {s : Shared}
theorem rv_call {it t : Addr} {items : Array Value} {Q : Value → Shared → Prop} (hit : RT.IsRt s.heap it t ((items.size : Int) - 1)) (ht : PyProof.Rows.IsTup s.heap t items) (hsz : items.size ≤ sizeLine)
    (h : ∀ k tk, Q (.int (items.size : Int) k) { s with toks := tk }) : wpAny (model prog w) A (call (.builtin "reversed.__length_hint__") [.ref it]) Q E s := by
  obtain ⟨o, ho, hc, hd⟩ := id hit
  refine wpAny_call_entry rv_slot hit.typeIs rv_entry ?_ (rv_args _)
  unfold Builtin.«reversed.__length_hint__»
  refine wpAny_bind (wpAny_of_eq (a := Value.ref it) rfl ?_)
  refine wpAny_bind (wpAny_field ho hd (x := .ref t) rfl ?_)
  rw [if_neg (show ¬ (Value.ref t == Value.none) = true from Bool.false_ne_true)]
  have hn := line63
  refine wpAny_bind (PyProof.Rows.len_tuple ht (by omega) ?_)
  refine wpAny_bind (wpAny_of_eq (a := some (items.size : Int)) rfl ?_)
  dsimp only
  refine wpAny_bind (wpAny_field (s := { s with toks := s.toks + 1 + 1 }) ho hd (x := rawInt ((items.size : Int) - 1)) rfl ?_)
  have e : rawInt ((items.size : Int) - 1) = Value.int ((items.size : Int) - 1) 0 := rfl
  rw [e]
  dsimp only
  rw [if_neg (by omega), show (items.size : Int) - 1 + 1 = (items.size : Int) by omega]
  unfold retInt
  refine wpAny_bind (wpAny_mkInt ?_)
  exact wpAny_pure ⟨_, rfl, h _ _⟩
/-- the walk through a tuple from behind -/
theorem rv_walks (hh : A.handled = none) (it t : Addr) (hne : t ≠ it) (xs : Array Value) (hsz : xs.size ≤ sizeLine) :
    Walks prog w A it [it, t] [it] xs.size (fun i v => xs[xs.size - 1 - i]? = some v) (fun i h => i ≤ xs.size ∧ RT.IsRt h it t ((xs.size : Int) - 1 - ((i : Nat) : Int)) ∧ PyProof.Rows.IsTup h t xs) := by
  refine ⟨fun b hb => List.mem_cons.2 (.inl (List.mem_singleton.1 hb)), fun i h h' st hk => ?_, fun i s Q E hi st hQ => ?_, fun s Q E st hQ => ?_, fun i s Q E st h => RT.iter_rt st.2.1 h⟩
  · obtain ⟨h1, h2, o, h3, h4⟩ := st
    exact ⟨h1, h2.at fun o e => hk it (by simp) o e, o, hk t (by simp) o h3, h4⟩
  · obtain ⟨h1, h2, h3⟩ := st
    have e1 : (xs.size : Int) - 1 - ((i : Nat) : Int) = ((xs.size - 1 - i : Nat) : Int) := by omega
    have e2 : ((xs.size - 1 - i : Nat) : Int) - 1 = (xs.size : Int) - 1 - ((i + 1 : Nat) : Int) := by omega
    rw [e1] at h2
    have hx : xs[xs.size - 1 - i]? = some (xs[xs.size - 1 - i]'(by omega)) := Array.getElem?_eq_getElem (by omega)
    refine RT.next_rt_item h2 h3 hx hsz fun h' a b => ?_
    rw [e2] at a
    obtain ⟨o, h4, h5⟩ := h3
    exact hQ _ h' _ hx ⟨hi, a, o, (b.2 t hne).trans h4, h5⟩ fun c oc hc ec => (b.2 c fun z => hc (by simp [z])).trans ec
  · obtain ⟨h1, h2, h3⟩ := st
    have e1 : (xs.size : Int) - 1 - ((xs.size : Nat) : Int) = -1 := by omega
    rw [e1] at h2
    exact RT.next_rt_end hh h2 fun h' a => hQ h' s.toks fun c oc hc ec => a c oc (fun z => hc (by simp [z])) ec
abbrev nlO : Obj := { cls := .type "list", data := .seq ([] : List Value).toArray }
theorem rv_collect {it t : Addr} {xs : Array Value} {Q : List Value → Shared → Prop} (hh : A.handled = none) (hit : RT.IsRt s.heap it t ((xs.size : Int) - 1)) (ht : PyProof.Rows.IsTup s.heap t xs) (hne : t ≠ it) (hsz : xs.size ≤ sizeLine)
    (hQ : ∀ (h' : Heap) (tk : Nat) (acc : Array Value), (∀ b o, b ≠ it → s.heap.get? b = some o → h'.get? b = some o) → ItemsOf (fun i v => xs[xs.size - 1 - i]? = some v) acc xs.size → Q acc.toList { s with heap := h', toks := tk }) :
    wpAny (model prog w) A (collect (.ref it)) Q E s := by
  have W := (rv_walks (prog := prog) (w := w) (A := A.in1) hh it t hne xs hsz).toS
  obtain ⟨oi, hoi, _⟩ := id hit
  obtain ⟨ot, hot, _⟩ := id ht
  have n1 : s.heap.objs.size ≠ it := Nat.ne_of_gt (Heap.lt_size hoi)
  have n2 : s.heap.objs.size ≠ t := Nat.ne_of_gt (Heap.lt_size hot)
  have n3 : s.heap.objs.size ∉ [it, t] := by
    simp only [List.mem_cons, List.not_mem_nil, or_false, not_or]
    exact ⟨n1, n2⟩
  have e0 : ((xs.size : Nat) : Int) - 1 - ((0 : Nat) : Int) = (xs.size : Int) - 1 := by omega
  have g0 : (s.heap.push nlO).get? s.heap.objs.size = some nlO := Heap.get?_push_size _ rfl
  have g1 : RT.IsRt (s.heap.push nlO) it t ((xs.size : Int) - 1) := hit.at fun o e => Heap.get?_push_of_some _ e
  have g2 : PyProof.Rows.IsTup (s.heap.push nlO) t xs := by
    obtain ⟨o, a, b⟩ := id ht
    exact ⟨o, Heap.get?_push_of_some _ a, b⟩
  have g3 : ({ s with heap := s.heap.push nlO } : Shared).TypeIs (.ref it) "reversed" := RT.IsRt.typeIs (s := { s with heap := s.heap.push nlO }) g1
  have g4 : Builtin.List.listSameRef (.ref s.heap.objs.size) (.ref it) = false := by simp [Builtin.List.listSameRef, n1]
  unfold collect
  apply wpAny_bind
  apply wpAny_runValue
  apply codeAny_builtin F.entry_proto_collect
  rw [Around.under_plainId (F.plain_proto_collect) _]
  show wpAny _ A.in1 (newList [] >>= fun l' => again (.builtin "list.__iadd__" ⟨[l', .ref it], []⟩)) _ _ s
  apply wpAny_bind
  refine wpAny_newObj_type ?_
  apply wpAny_pure
  refine ⟨plainId_quiet F.plain_list_iadd _, ?_⟩
  apply codeAny_builtin F.entry_list_iadd
  rw [Around.under_plainId (F.plain_list_iadd) _]
  show wpAny _ A.in1 (Builtin.List.listExtendWith (.ref s.heap.objs.size) (.ref it) (.ref s.heap.objs.size)) _ _ { s with heap := s.heap.push nlO }
  unfold Builtin.List.listExtendWith
  apply wpAny_bind
  refine wpAny_typeOf g3 ?_
  rw [if_neg (show ¬ _ from by rw [g4]; decide)]
  apply wpAny_bind
  refine RT.iter_rt (s := { s with heap := s.heap.push nlO }) g1 ?_
  apply wpAny_bind
  apply wpAny_holding
  unfold Builtin.List.listLengthHint
  apply wpAny_bind
  refine wpAny_specialOf g3 rv_len0 ?_
  show wpAny _ A.in1 (specialOf (Value.ref it) (Str.ofString "__length_hint__") >>= fun _ => _) _ _ _
  apply wpAny_bind
  refine wpAny_specialOf g3 rv_hint ?_
  generalize hi : ("reversed.__length_hint__" : String) = name
  wp_delta
  have hsp : splitId name = some ("reversed", "__length_hint__") := by
    subst hi
    decide +kernel
  rw [hsp]
  subst hi
  apply wpAny_bind
  refine wpAny_isInstance (b := true) g3 (by rw [isSubtype_type]; kernel_rfl) ?_
  rw [if_neg (by decide)]
  show wpAny _ A.in1 (if _ = true then _ else _) _ _ _
  rw [if_neg (by decide)]
  apply wpAny_bind
  refine wpAny_rule ?_
  apply wpAny_bind
  refine wpAny_of_eq (rv_slot.bind _) ?_
  dsimp only
  apply wpAny_bind
  refine wpAny_attempt ?_
  refine rv_call (s := { s with heap := s.heap.push nlO }) g1 g2 hsz fun k tk => ?_
  have f1 : ¬ (!Builtin.List.listFitsIndex (xs.size : Int)) = true := by
    have := line63
    simp only [Builtin.List.listFitsIndex, Bool.not_eq_true', Bool.not_eq_false, Bool.and_eq_true, decide_eq_true_eq]
    omega
  have f2 : ¬ ((xs.size : Int) < 0) := by omega
  have f3 : ¬ Builtin.List.listTooLong (xs.size : Int).toNat = true := by
    simp only [Builtin.List.listTooLong, decide_eq_true_eq, Int.toNat_natCast]
    omega
  generalize hm : (xs.size : Int) = m at f1 f2 f3 ⊢
  show wpAny _ A.in1 (asInt? (Value.int m k) >>= fun _ => _) _ _ _
  refine wpAny_bind (wpAny_of_eq (a := some m) rfl ?_)
  show wpAny _ A.in1 (if _ then _ else _) _ _ _
  rw [if_neg f1, if_neg f2, if_neg f3]
  refine wpAny_pure ?_
  have st2 : ∀ h2 : Heap, (∀ b o, b ≠ s.heap.objs.size → (s.heap.push nlO).get? b = some o → h2.get? b = some o) → (0 ≤ xs.size ∧ RT.IsRt h2 it t ((xs.size : Int) - 1 - ((0 : Nat) : Int)) ∧ PyProof.Rows.IsTup h2 t xs) := fun h2 k2 => by
    rw [e0]
    obtain ⟨o, a, b⟩ := id g2
    exact ⟨Nat.zero_le _, g1.at fun o e => k2 it o (Ne.symm n1) e, o, k2 t o (Ne.symm n2) a, b⟩
  have done : ∀ (h2 : Heap) (acc : Array Value) (s' : Shared) (G : Array GenState → Array GenState → Prop) (s2 : Shared), Moved (s.heap.objs.size :: [it]) (fun a b => b = a) s2 s' → s2.heap = h2 → s2.gens = s.gens → s2.drawn = s.drawn → s2.os = s.os →
      (∀ b o, b ≠ s.heap.objs.size → (s.heap.push nlO).get? b = some o → h2.get? b = some o) → ItemsOf (fun i v => xs[xs.size - 1 - i]? = some v) acc xs.size → Q acc.toList s' := by
    intro h2 acc s' G s2 mv q1 q2 q3 q4 k2 ia
    rw [Moved.eq_with mv]
    have := hQ s'.heap s'.toks acc (fun b o hb e => mv.heap b o (fun hmem => ?_) ?_) ia
    · obtain ⟨a1, a2, a3, a4, a5⟩ := s2
      dsimp only at q1 q2 q3 q4
      subst q1 q2 q3 q4
      exact this
    · rcases List.mem_cons.1 hmem with e' | hmem
      · exact absurd (Heap.lt_size e) (by rw [e']; exact Nat.lt_irrefl _)
      · exact hb (List.mem_singleton.1 hmem)
    · rw [q1]
      exact k2 b o (Nat.ne_of_lt (Heap.lt_size e)) (Heap.get?_push_of_some _ e)
  refine wpAny_ite_split (fun _ => ?_) (fun _ => ?_)
  · apply wpAny_bind
    refine wpAny_rule ?_
    apply wpAny_bind
    show wpAny _ A.in1 (updateSeq s.heap.objs.size (fun z => z.push .none) >>= fun _ => updateSeq s.heap.objs.size (fun z => z.pop)) _ _ _
    apply wpAny_bind
    refine wpAny_updateSeq g0 rfl ?_
    have g6 := Heap.get?_update_self (Obj.mapSeq (fun z => z.push Value.none)) g0 rfl
    refine wpAny_updateSeq g6 rfl ?_
    have g7 := Heap.get?_update_self (Obj.mapSeq (fun z => z.pop)) g6 rfl
    have k2 : ∀ b o, b ≠ s.heap.objs.size → (s.heap.push nlO).get? b = some o → (((s.heap.push nlO).update s.heap.objs.size (Obj.mapSeq (fun z => z.push Value.none))).update s.heap.objs.size (Obj.mapSeq (fun z => z.pop))).get? b = some o :=
      fun b o hb e => (Heap.get?_update_other _ _ (Ne.symm hb)).trans ((Heap.get?_update_other _ _ (Ne.symm hb)).trans e)
    refine wpAny_pure ⟨plainId_quiet F.plain_extend_loop _, ?_⟩
    refine codeAny_extend_loopS W hsz _ n3 _ xs.size 0 _ _ _ rfl (Nat.zero_le _) (st2 _ k2) g7 (ItemsOf.nil _) fun s' acc' c' mv hS' ia => ?_
    show wpAny _ A (PySem.load s.heap.objs.size >>= fun _ => _) _ _ s'
    apply wpAny_bind
    refine wpAny_load hS' ?_
    exact wpAny_pure (done _ acc' s' (fun a b => b = a) _ mv rfl rfl rfl rfl k2 ia)
  · refine wpAny_pure ⟨plainId_quiet F.plain_extend_loop _, ?_⟩
    refine codeAny_extend_loopS W hsz _ n3 _ xs.size 0 _ _ _ rfl (Nat.zero_le _) (st2 _ fun _ _ _ e => e) g0 (ItemsOf.nil _) fun s' acc' c' mv hS' ia => ?_
    show wpAny _ A (PySem.load s.heap.objs.size >>= fun _ => _) _ _ s'
    apply wpAny_bind
    refine wpAny_load hS' ?_
    exact wpAny_pure (done _ acc' s' (fun a b => b = a) _ mv rfl rfl rfl rfl (fun _ _ _ e => e) ia)
theorem rv_new {it t : Addr} {xs : Array Value} {Q1 : Value → Shared → Prop} (hh : A.handled = none) (hit : RT.IsRt s.heap it t ((xs.size : Int) - 1)) (ht : PyProof.Rows.IsTup s.heap t xs) (hne : t ≠ it) (hsz : xs.size ≤ sizeLine)
    (hQ : ∀ (h' : Heap) (tk : Nat) (acc : Array Value), (∀ b o, b ≠ it → s.heap.get? b = some o → h'.get? b = some o) → ItemsOf (fun i v => xs[xs.size - 1 - i]? = some v) acc xs.size →
      Q1 (.ref h'.objs.size) { s with heap := h'.push { cls := .type "tuple", data := .seq acc }, toks := tk }) :
    codeAny (model prog w) A (.call (.builtin "tuple.__new__") ⟨[.type "tuple", .ref it], []⟩) (wants Q1 E) s := by
  apply codeAny_of_tree
  show wpAny _ A.in1 (checkBuiltinCall "tuple.__new__" ⟨[.type "tuple", .ref it], []⟩ >>= fun _ => again (.builtin "tuple.__new__" ⟨[.type "tuple", .ref it], []⟩)) _ _ s
  apply wpAny_bind
  refine wpAny_of_eq (F.newCall_tuple_1 _) ?_
  refine wpAny_pure ⟨plainId_quiet F.plain_tuple_new _, ?_⟩
  apply codeAny_builtin F.entry_tuple_new
  rw [Around.under_plainId (F.plain_tuple_new) _]
  have a1 := sub_tuple_self
  have a2 := init_tuple_lookup
  have a3 := madeHere_tuple
  have a4 : s.TypeIs (.ref it) "reversed" := hit.typeIs
  have a5 : A.in1.handled = none := hh
  wp_walk using wpAny_typeOf a4, rv_collect (A := A.in1) a5 hit ht hne hsz
  intro h' tk acc kp ia
  show wpAny _ _ (Builtin.Tuple.tupleExact acc.toList.toArray >>= fun v => ret v) _ _ _
  have e : acc.toList.toArray = acc := by simp
  rw [e]
  unfold Builtin.Tuple.tupleExact
  apply wpAny_bind
  refine wpAny_newObj_type ?_ (by show acc.size ≤ sizeLine; rw [ia.1]; exact hsz)
  exact wpAny_pure (hQ h' tk acc kp ia)
theorem rv_tuple {it t : Addr} {xs : Array Value} {Q : Value → Shared → Prop} (hh : A.handled = none) (hit : RT.IsRt s.heap it t ((xs.size : Int) - 1)) (ht : PyProof.Rows.IsTup s.heap t xs) (hne : t ≠ it) (hsz : xs.size ≤ sizeLine)
    (hQ : ∀ (h' : Heap) (tk : Nat) (acc : Array Value), (∀ b o, b ≠ it → s.heap.get? b = some o → h'.get? b = some o) → ItemsOf (fun i v => xs[xs.size - 1 - i]? = some v) acc xs.size →
      Q (.ref h'.objs.size) { s with heap := h'.push { cls := .type "tuple", data := .seq acc }, toks := tk }) :
    wpAny (model prog w) A (call (.type "tuple") [.ref it]) Q E s := by
  refine callType_codes (Q₁ := fun ob s1 => s1.TypeIs ob "tuple" ∧ Q ob s1) F.called_tuple (F.typeCall_tuple_1 _) F.entry_object_init ?_ fun ob s1 h1 => ?_
  · exact rv_new (A := A.in1) hh hit ht hne hsz fun h' tk acc kp ia => ⟨⟨_, Heap.get?_push_size _ rfl, rfl⟩, hQ h' tk acc kp ia⟩
  · refine ⟨h1.1, F.args_object_init_2 ob _, ?_⟩
    exact object_init_meets F.called_tuple.init.lookup F.called_tuple.made (by decide) prog w A.in1 _ s1 ⟨h1.1, rfl, h1.2⟩
end
section
variable {X : Cx}
/-- tuple(reversed(x)), x a tuple: a new tuple -/
theorem pe_tupRv {e : Expr} {te : TE} {p p2 pos pos2 : Pos} (hc : X.calm = true) (hg : Gl X "tuple") (hm : X.mg "tuple" = none) (hg2 : Gl X "reversed") (hm2 : X.mg "reversed" = none) (he : PE X e te)
    (hs : starEach [e] X.env = (false, eval e X.env) :: starEach [] X.env)
    (hs2 : starEach [.Call (.Name "reversed" p2) [e] [] pos2] X.env = (false, eval (.Call (.Name "reversed" p2) [e] [] pos2) X.env) :: starEach [] X.env := by rfl) :
    PE X (.Call (.Name "tuple" p) [.Call (.Name "reversed" p2) [e] [] pos2] [] pos) (fun σ H Q => te σ H fun v H1 => ∃ (a : Addr) (xs : List V), v = .ref a ∧ SqT X.K H1 a xs ∧ NewT xs.reverse H1 Q) := by
  refine ⟨fun pins s σ H Q I h => ?_⟩
  refine PyProof.Rows.Call_ (ld_blt I hg hm PyProof.Rows.boot_tuple (PyProof.Rows.callWith_type1 (PyProof.Rows.args_cons ?_ hs2) hs2 rfl))
  refine PyProof.Rows.Call_ (ld_blt I hg2 hm2 PyProof.Rows.boot_reversed (PyProof.Rows.callWith_type1 (PyProof.Rows.args_cons ?_ hs) hs rfl))
  refine thn (he.run pins s σ H _ I h) fun u s1 hu => PyProof.Rows.args_nil ?_
  obtain ⟨v, H1, I1, r1, a, xs, ev, hq, q⟩ := hu
  subst ev
  obtain rfl : u = Value.ref a := r1
  obtain ⟨its, rv, p', hz⟩ := I1.tuple hq
  have hl := rv.length
  have hn := line63
  have hn2 : its.toArray.size ≤ sizeLine := by
    rw [List.size_toArray, ← hl]
    exact hz
  refine RT.call_reversed_tup p' (fun A E Q k => PyProof.Rows.len_tuple p' (by omega) k) (PyProof.Rows.args_nil ?_)
  have k0 : ∀ b o, s1.heap.get? b = some o → (s1.heap.push (RT.rtObj a ((its.toArray.size : Int) - 1))).get? b = some o := fun b o e => Heap.get?_push_of_some _ e
  have I2 : Inv X pins σ H1 { s1 with heap := s1.heap.push (RT.rtObj a ((its.toArray.size : Int) - 1)), toks := s1.toks + 1 + 1 } := I1.kept (t' := s1.toks + 1 + 1) k0
  obtain ⟨f0, f1, f2, f3, f4, f5⟩ := I1.fpOk (H' := H1) (b := s1.heap.objs.size) (Nat.le_refl _) (I1.hok.fresh (Nat.le_refl _))
  obtain ⟨ot, hot, hot2⟩ := id p'
  have hne : a ≠ s1.heap.objs.size := Nat.ne_of_lt (Heap.lt_size hot)
  refine rv_tuple (s := { s1 with heap := s1.heap.push (RT.rtObj a ((its.toArray.size : Int) - 1)), toks := s1.toks + 1 + 1 }) (I1.ok.hd hc) ⟨_, Heap.get?_push_size _ rfl, rfl, rfl⟩ ⟨ot, Heap.get?_push_of_some _ hot, hot2⟩ hne hn2 fun h' tk acc kp ia => ?_
  have I3 : Inv X pins σ H1 { s1 with heap := h', toks := tk } := I2.turned (t' := tk) (fun b o hb e => kp b o hb e) f0 f1 f3 f4 f5
  have hv : Vals xs.reverse acc.toList := RT.vals_rev rv ia
  have := tpush (t' := tk) (Q := Q) I3 hv (by rw [List.length_reverse]; exact hz) q
  rw [Array.toArray_toList] at this
  exact this
end
end Cv
end

section
/-! CvD: transformers, operands, the operators' rules. -/
set_option autoImplicit false
set_option linter.all false
set_option maxRecDepth 100000
namespace Cv
open PySem PySem.Spec L2

def bar (Ex : Addr → Prop) (p : Addr) : Addr → Prop := fun a => Ex a ∨ a = p
section
variable (K : PySem.W.Frag) (io : Nat → Option Addr)
def TX (ev : Env → R) : TE := fun σ H Q => ∃ (Ex : Addr → Prop) (env : Env) (d : D) (env' : Env), Rel K io Ex H σ env ∧ ev env = some (d, env') ∧
  ∀ v H', Pst K io Ex H σ env H' σ env' → Rp K H' (Zs σ env' Ex) d v → Q v H'
/-- a new list or dict that nobody else knows -/
def TF (ev : Env → R) : TE := fun σ H Q => ∃ (Ex : Addr → Prop) (env : Env) (d : D) (env' : Env), Rel K io Ex H σ env ∧ ev env = some (d, env') ∧
  ∀ p H', Pst K io Ex H σ env H' σ env' → Rel K io (bar Ex p) H' σ env' → (H p = none ∨ Ow σ env p) → Ct K H' (Zs σ env' (bar Ex p)) p d → Q (.ref p) H'
def TB (ev : Env → Option (Bool × Env)) : TT := fun σ H Q => ∃ (Ex : Addr → Prop) (env : Env) (b : Bool) (env' : Env), Rel K io Ex H σ env ∧ ev env = some (b, env') ∧
  ∀ H', Pst K io Ex H σ env H' σ env' → Q b H'
/-- what an operand stands for: a value, or what the slot holds -/
def OpV (H : Hp) (Z : Addr → Prop) (σ : St) : Op → V → Prop
  | .v d, v => Rp K H Z d v
  | .s i, v => σ[i]? = some (some v)
def TOp (ev : Env → Option (Op × Env)) : TE := fun σ H Q => ∃ (Ex : Addr → Prop) (env : Env) (o : Op) (env' : Env), Rel K io Ex H σ env ∧ ev env = some (o, env') ∧
  ∀ v H', Pst K io Ex H σ env H' σ env' → OpV K H' (Zs σ env' Ex) σ o v → Q v H'
/-- readable: nobody changes it, or an object of the frame's own as it stands now -/
def Rb (H : Hp) (Z : Addr → Prop) (d : D) (v : V) : Prop := Rp K H Z d v ∨ ∃ a, v = .ref a ∧ Ct K H Z a d
end

end Cv
namespace L2
open PySem PySem.Spec
section
variable {X : Cx} {e : Expr} {t t' : TE}
theorem PE.imp (h : PE X e t) (i : ∀ σ H Q, t' σ H Q → t σ H Q) : PE X e t' := ⟨fun pins s σ H Q I hw => h.run pins s σ H Q I (i σ H Q hw)⟩
theorem PE.by' (h : ∀ σ H Q, t' σ H Q → ∃ t, PE X e t ∧ t σ H Q) : PE X e t' := ⟨fun pins s σ H Q I hw => by
  obtain ⟨t, p, q⟩ := h σ H Q hw
  exact p.run pins s σ H Q I q⟩
theorem PT.imp {t t' : TT} (h : PT X e t) (i : ∀ σ H Q, t' σ H Q → t σ H Q) : PT X e t' := ⟨fun pins s σ H Q I hw => h.run pins s σ H Q I (i σ H Q hw)⟩
theorem PT.by' {t' : TT} (h : ∀ σ H Q, t' σ H Q → ∃ t, PT X e t ∧ t σ H Q) : PT X e t' := ⟨fun pins s σ H Q I hw => by
  obtain ⟨t, p, q⟩ := h σ H Q hw
  exact p.run pins s σ H Q I q⟩
theorem PS.imp {st : Stmt} {t t' : TS} (h : PS X st t) (i : ∀ D σ H, t' D σ H → t D σ H) : PS X st t' := ⟨fun pins s σ H D I hw => h.run pins s σ H D I (i D σ H hw)⟩
theorem PS.by' {st : Stmt} {t' : TS} (h : ∀ D σ H, t' D σ H → ∃ t, PS X st t ∧ t D σ H) : PS X st t' := ⟨fun pins s σ H D I hw => by
  obtain ⟨t, p, q⟩ := h D σ H hw
  exact p.run pins s σ H D I q⟩
end

end L2
namespace Cv
open PySem PySem.Spec L2
section
variable {K : PySem.W.Frag} {io : Nat → Option Addr} {Ex : Addr → Prop} {H H' : Hp} {σ : St} {env env' : Env} {Z Z' : Addr → Prop}

theorem OpV.ft {o : Op} {v : V} (f : Ft H Z H' Z') (h : OpV K H Z σ o v) : OpV K H' Z' σ o v := by
  cases o with
  | v d => exact Rp.ft f _ _ h
  | s i => exact h
theorem Rb.of {d : D} {v : V} (h : Rp K H Z d v) : Rb K H Z d v := .inl h
theorem peek_ok (R : Rel K io Ex H σ env) {i : Nat} {d : D} {v : V} (h : peek i env = some d) (e : σ[i]? = some (some v)) : Rb K H (Zs σ env Ex) d v := by
  unfold peek at h
  split at h
  · rename_i d' q
    cases h
    obtain ⟨u, e', r⟩ := R.slot i _ q
    rw [e] at e'
    cases e'
    exact .inl r
  · rename_i d' q
    cases h
    obtain ⟨a, e', n, c⟩ := R.slot i _ q
    rw [e] at e'
    cases e'
    exact .inr ⟨a, rfl, c⟩
  · rename_i d' q
    cases h
    obtain ⟨a, _, e', n, c⟩ := R.slot i _ q
    rw [e] at e'
    cases e'
    exact .inr ⟨a, rfl, c⟩
  · cases h
theorem rd_ok (R : Rel K io Ex H σ env) {o : Op} {d : D} {v : V} (h : rd o env = some d) (e : OpV K H (Zs σ env Ex) σ o v) : Rb K H (Zs σ env Ex) d v := by
  cases o with
  | v d' => cases h; exact .inl e
  | s i => exact peek_ok R h e

/-! what is read -/
theorem Rb.int {i : Int} {v : V} (h : Rb K H Z (.int i) v) : v = .int i := by
  rcases h with h | ⟨_, _, h⟩
  · simpa only [Rp] using h
  · exact h.elim
theorem Rb.bl {i : Bool} {v : V} (h : Rb K H Z (.bl i) v) : v = .bl i := by
  rcases h with h | ⟨_, _, h⟩
  · simpa only [Rp] using h
  · exact h.elim
theorem Rb.non {v : V} (h : Rb K H Z .non v) : v = .non := by
  rcases h with h | ⟨_, _, h⟩
  · simpa only [Rp] using h
  · exact h.elim
theorem Rb.str {s : List Nat} {v : V} (h : Rb K H Z (.str s) v) : v = .str ⟨s.toArray⟩ := by
  rcases h with h | ⟨_, _, h⟩
  · simpa only [Rp] using h
  · exact h.elim
theorem Rb.tup {ds : List D} {v : V} (h : Rb K H Z (.tup ds) v) : ∃ a vs, v = .ref a ∧ FzT K H Z a vs ∧ RpL K H Z ds vs := by
  rcases h with h | ⟨_, _, h⟩
  · simpa only [Rp] using h
  · exact h.elim
theorem Rb.lst {ds : List D} {v : V} (h : Rb K H Z (.lst ds) v) : ∃ a vs, v = .ref a ∧ Rd H a (.lst vs) ∧ RpL K H Z ds vs := by
  rcases h with h | ⟨a, e, vs, h, r⟩
  · simp only [Rp] at h
    obtain ⟨a, vs, e, q, r⟩ := h
    exact ⟨a, vs, e, q.2, r⟩
  · exact ⟨a, vs, e, .inl h, r⟩
theorem Rb.dic {ks ws : List D} {v : V} (h : Rb K H Z (.dic ks ws) v) : ∃ (a : Addr) (kvs : List (Key × V)), v = .ref a ∧ Rd H a (.dK kvs) ∧ ks = kvs.map (fun p => keyD p.1) ∧ RpL K H Z ws (kvs.map (·.2)) := by
  rcases h with h | ⟨a, e, kvs, h, k, r⟩
  · simp only [Rp] at h
    obtain ⟨a, vs, e, q, k, r⟩ := h
    exact ⟨a, vs, e, q.2, k, r⟩
  · exact ⟨a, kvs, e, .inl h, k, r⟩
theorem rp_int {i : Int} : Rp K H Z (.int i) (.int i) := by simp only [Rp]
theorem rp_bl {i : Bool} : Rp K H Z (.bl i) (.bl i) := by simp only [Rp]
theorem rp_non : Rp K H Z .non .non := by simp only [Rp]
theorem rp_str {s : List Nat} : Rp K H Z (.str s) (.str ⟨s.toArray⟩) := by simp only [Rp]
theorem rp_tup {ds : List D} {p : Addr} {o : Obj} {vs : List V} (n : H p = none) (nz : ¬ Z p) (r : RpL K H Z ds vs) (po : PlainT o) : Rp K (upd H p (.frz o (.tup vs))) Z (.tup ds) (.ref p) := by
  simp only [Rp]
  exact ⟨p, vs, rfl, .inl ⟨nz, o, upd_same, po⟩, RpL.ft (Ft.same (same_upd n)) _ _ r⟩
theorem rp_lst {ds : List D} {p : Addr} {vs : List V} (n : H p = none) (nz : ¬ Z p) (r : RpL K H Z ds vs) : Rp K (upd H p (.lst vs)) Z (.lst ds) (.ref p) := by
  simp only [Rp]
  exact ⟨p, vs, rfl, ⟨nz, .inl upd_same⟩, RpL.ft (Ft.same (same_upd n)) _ _ r⟩
end

/-! ### operators -/
theorem big_eq : big = sizeLine := by rw [sizeLine_eq]; rfl
theorem lenOk_le {n : Nat} (h : lenOk n = true) : n ≤ sizeLine := by
  unfold lenOk at h
  rw [← big_eq]
  exact Nat.le_of_ble_eq_true h
def oprOf : Bop → Operator
  | .add => .Add | .sub => .Sub | .mul => .Mult | .fdiv => .FloorDiv | .mod => .Mod | .band => .BitAnd | .bor => .BitOr | .bxor => .BitXor | .shl => .LShift | .shr => .RShift
/-- the answer of an operator: all that was tracked stands, a value for d comes -/
def rBin (K : PySem.W.Frag) (g : D → D → Option D) : R2 := fun x y H Q => ∃ (Z : Addr → Prop) (p q d : D), (∀ a, Z a → H a ≠ none) ∧ Rb K H Z p x ∧ Rb K H Z q y ∧ g p q = some d ∧ ∀ w H', Same H H' → Rp K H' Z d w → Q w H'
theorem mulOk_ok {i j : Int} (h : mulOk i j = true) : CMul i j ∨ CMulW i j := by
  unfold mulOk at h
  simp only [Bool.or_eq_true, Bool.and_eq_true, decide_eq_true_eq] at h
  rcases h with (h | h) | h
  · exact .inl (.inl ⟨by omega, by omega⟩)
  · exact .inl (.inr ⟨by omega, by omega⟩)
  · refine .inr ?_
    have h1 := Nat.blt_eq ▸ h.1
    have h2 := Nat.blt_eq ▸ h.2
    have h1 : i.natAbs.log2 < 400000 := by simpa using h.1
    have h2 : j.natAbs.log2 < 400000 := by simpa using h.2
    unfold CMulW
    omega
theorem divOk_ok {i j : Int} (h : divOk j = true) : CDivW i j := by
  unfold divOk at h
  simp only [Bool.and_eq_true, decide_eq_true_eq] at h
  exact ⟨h.1, by simpa using h.2⟩
theorem nz_of {H : Hp} {Z : Addr → Prop} (zt : ∀ a, Z a → H a ≠ none) {p : Addr} (n : H p = none) : ¬ Z p := fun z => zt p z n

theorem bitAnd_nn {i j : Int} (h1 : 0 ≤ i) (h2 : 0 ≤ j) : Builtin.bitAnd i j = Int.ofNat (Nat.land i.toNat j.toNat) := by
  obtain ⟨a, rfl⟩ := Int.eq_ofNat_of_zero_le h1
  obtain ⟨b, rfl⟩ := Int.eq_ofNat_of_zero_le h2
  rfl
theorem bitOr_nn {i j : Int} (h1 : 0 ≤ i) (h2 : 0 ≤ j) : Builtin.bitOr i j = Int.ofNat (Nat.lor i.toNat j.toNat) := Bits.bitOr_pp h1 h2
theorem bitXor_nn {i j : Int} (h1 : 0 ≤ i) (h2 : 0 ≤ j) : Builtin.bitXor i j = Int.ofNat (Nat.xor i.toNat j.toNat) := Bits.bitXor_pp h1 h2

section
variable {X : Cx}
theorem op_cat2 : OpR X (binaryOp .Add) (fun x y H Q => ∃ l b xs zs, x = .ref l ∧ y = .ref b ∧ Rd H l (.lst xs) ∧ Rd H b (.lst zs) ∧ xs.length + zs.length ≤ sizeLine ∧ ∀ p, H p = none → Q (.ref p) (upd H p (.lst (xs ++ zs)))) := by
  intro pins s σ H x y v u Q I rx ry h
  obtain ⟨l, b, xs, zs, rfl, rfl, hH, hB, hz, q⟩ := h
  cases rx
  cases ry
  obtain ⟨z, its, n, r, e⟩ := hH.ok I.hok
  obtain ⟨z2, its2, n2, r2, e2⟩ := hB.ok I.hok
  have hl := r.length
  have hl2 := r2.length
  refine PySem.P.add_list e e2 ?_ (by rw [List.size_toArray, List.size_toArray]; omega)
  have ea : its.toArray ++ its2.toArray = (its ++ its2).toArray := by simp
  rw [ea]
  exact ⟨.ref _, _, I.lnew (t' := s.toks) (r.append r2) (by rw [List.length_append]; omega), rfl, q _ I.fresh⟩
theorem op_binI (o : Bop) : OpR X (binaryOp (oprOf o)) (fun x y H Q => ∃ i j k, x = .int i ∧ y = .int j ∧ binI o i j = some k ∧ Q (.int k) H) := by
  intro pins s σ H x y v u Q I rx ry h
  obtain ⟨i, j, k, rfl, rfl, e, q⟩ := h
  cases o with
  | add => cases e; exact op_add pins s σ H _ _ v u Q I rx ry ⟨i, j, rfl, rfl, q⟩
  | sub => cases e; exact op_sub pins s σ H _ _ v u Q I rx ry ⟨i, j, rfl, rfl, q⟩
  | mul =>
    simp only [binI] at e
    split at e
    · rename_i h
      cases e
      rcases mulOk_ok h with h | h
      · exact op_mul pins s σ H _ _ v u Q I rx ry ⟨i, j, rfl, rfl, h, q⟩
      · exact op_mulW pins s σ H _ _ v u Q I rx ry ⟨i, j, rfl, rfl, h, q⟩
    · cases e
  | fdiv =>
    simp only [binI] at e
    split at e
    · rename_i h
      cases e
      exact op_fdivW pins s σ H _ _ v u Q I rx ry ⟨i, j, rfl, rfl, divOk_ok h, q⟩
    · cases e
  | mod =>
    simp only [binI] at e
    split at e
    · rename_i h
      cases e
      exact op_mod pins s σ H _ _ v u Q I rx ry ⟨i, j, rfl, rfl, of_decide_eq_true h, q⟩
    · cases e
  | band =>
    simp only [binI] at e
    split at e
    · rename_i h
      cases e
      rw [Bool.and_eq_true] at h
      rw [← bitAnd_nn (of_decide_eq_true h.1) (of_decide_eq_true h.2)] at q
      exact op_and pins s σ H _ _ v u Q I rx ry ⟨i, j, rfl, rfl, q⟩
    · cases e
  | bor =>
    simp only [binI] at e
    split at e
    · rename_i h
      cases e
      rw [Bool.and_eq_true] at h
      rw [← bitOr_nn (of_decide_eq_true h.1) (of_decide_eq_true h.2)] at q
      exact op_or pins s σ H _ _ v u Q I rx ry ⟨i, j, rfl, rfl, q⟩
    · cases e
  | bxor =>
    simp only [binI] at e
    split at e
    · rename_i h
      cases e
      rw [Bool.and_eq_true] at h
      rw [← bitXor_nn (of_decide_eq_true h.1) (of_decide_eq_true h.2)] at q
      exact op_xor pins s σ H _ _ v u Q I rx ry ⟨i, j, rfl, rfl, q⟩
    · cases e
  | shl =>
    simp only [binI] at e
    split at e
    · rename_i h
      cases e
      simp only [Bool.and_eq_true, decide_eq_true_eq] at h
      exact op_shl pins s σ H _ _ v u Q I rx ry ⟨i, j, rfl, rfl, ⟨h.1.1, by omega, by simpa using h.2⟩, q⟩
    · cases e
  | shr =>
    simp only [binI] at e
    split at e
    · rename_i h
      cases e
      exact op_shr pins s σ H _ _ v u Q I rx ry ⟨i, j, rfl, rfl, of_decide_eq_true h, q⟩
    · cases e

theorem op_bin (o : Bop) : OpR X (binaryOp (oprOf o)) (rBin X.K (binD o)) := by
  intro pins s σ H x y v u Q I rx ry h
  obtain ⟨Z, p, q, d, zt, hp, hq, e, k⟩ := h
  cases p with
  | int i =>
    cases q with
    | int j =>
      have e' : (binI o i j).map D.int = some d := by cases o <;> simpa only [binD] using e
      cases q : binI o i j with
      | none => rw [q] at e'; cases e'
      | some r =>
        rw [q] at e'
        cases e'
        cases hp.int
        cases hq.int
        exact op_binI o pins s σ H _ _ v u Q I rx ry ⟨i, j, r, rfl, rfl, q, k _ _ (Same.refl _) rp_int⟩
    | _ => cases o <;> simp [binD] at e
  | str a =>
    cases q with
    | str b =>
      cases o with
      | add =>
        simp only [binD] at e
        split at e
        · rename_i h
          cases e
          cases hp.str
          cases hq.str
          refine op_add_str pins s σ H _ _ v u Q I rx ry ⟨_, _, rfl, rfl, ?_, ?_⟩
          · have := lenOk_le h
            simpa [Str.length] using this
          · refine k _ _ (Same.refl _) ?_
            have : (⟨a.toArray⟩ ++ ⟨b.toArray⟩ : Str) = ⟨(a ++ b).toArray⟩ := by
              show (⟨a.toArray ++ b.toArray⟩ : Str) = _
              simp
            rw [this]
            exact rp_str
        · cases e
      | _ => simp [binD] at e
    | _ => cases o <;> simp [binD] at e
  | tup a =>
    obtain ⟨pa, vs, rfl, fa, ra⟩ := hp.tup
    cases q with
    | tup b =>
      cases o with
      | add =>
        simp only [binD] at e
        split at e
        · rename_i h
          cases e
          obtain ⟨pb, us, rfl, fb, rb⟩ := hq.tup
          have h1 := ra.length
          have h2 := rb.length
          refine op_catF pins s σ H _ _ v u Q I rx ry ⟨pa, pb, vs, us, rfl, rfl, fa.sq, fb.sq, by have := lenOk_le h; omega, fun hx => ?_, fun hx hy => ?_, fun hx hy p o hp po => ?_⟩
          · subst hx
            have : a = [] := by cases a with | nil => rfl | cons _ _ => simp at h1
            subst this
            refine k _ _ (Same.refl _) ?_
            simp only [List.nil_append, Rp]
            exact ⟨pb, us, rfl, fb, rb⟩
          · subst hy
            have : b = [] := by cases b with | nil => rfl | cons _ _ => simp at h2
            subst this
            refine k _ _ (Same.refl _) ?_
            simp only [List.append_nil, Rp]
            exact ⟨pa, vs, rfl, fa, ra⟩
          · exact k _ _ (same_upd hp) (rp_tup hp (nz_of zt hp) (ra.append rb) po)
        · cases e
      | _ => simp [binD] at e
    | _ => cases o <;> simp [binD] at e
  | lst a =>
    obtain ⟨pa, vs, rfl, fa, ra⟩ := hp.lst
    cases q with
    | lst b =>
      cases o with
      | add =>
        simp only [binD] at e
        split at e
        · rename_i h
          cases e
          obtain ⟨pb, us, rfl, fb, rb⟩ := hq.lst
          have h1 := ra.length
          have h2 := rb.length
          exact op_cat2 pins s σ H _ _ v u Q I rx ry ⟨pa, pb, vs, us, rfl, rfl, fa, fb, by have := lenOk_le h; omega, fun p hp => k _ _ (same_upd hp) (rp_lst hp (nz_of zt hp) (ra.append rb))⟩
        · cases e
      | _ => simp [binD] at e
    | _ => cases o <;> simp [binD] at e
  | _ => cases o <;> cases q <;> simp [binD] at e
end
end Cv
end

section
/-! CvE: comparisons, items, slices, truth. -/
set_option autoImplicit false
set_option linter.all false
set_option maxRecDepth 100000
namespace Cv
open PySem PySem.Spec L2

mutual
def D.py : D → PyData
  | .non => .none
  | .bl b => .bool b
  | .int i => .int i
  | .str s => .str ⟨s.toArray⟩
  | .tup xs => .tuple (D.pyL xs)
  | .lst xs => .list (D.pyL xs)
  | .dic _ _ => .dict []
def D.pyL : List D → List PyData
  | [] => []
  | x :: xs => D.py x :: D.pyL xs
end
theorem pyL_map : ∀ xs : List D, D.pyL xs = xs.map D.py
  | [] => rfl
  | x :: xs => by simp only [D.pyL, pyL_map xs, List.map_cons]

theorem str_eq {a b : List Nat} : ((⟨a.toArray⟩ : Str) == ⟨b.toArray⟩) = (a == b) := by
  by_cases h : a = b
  · subst h; simp
  · have h' : ¬ ((⟨a.toArray⟩ : Str) = ⟨b.toArray⟩) := fun q => h (by simpa using q)
    rw [beq_eq_false_iff_ne.mpr h', beq_eq_false_iff_ne.mpr h]
mutual
theorem eqv_py : ∀ a b : D, D.fit a 0 = D.fit a 0 → PyData.eqv a.py b.py = D.eqv a b
  | .non, b, _ => by cases b <;> simp [D.py, PyData.eqv, D.eqv]
  | .bl x, b, _ => by cases b <;> simp [D.py, PyData.eqv, D.eqv]
  | .int x, b, _ => by cases b <;> simp [D.py, PyData.eqv, D.eqv]
  | .str x, b, _ => by cases b <;> simp [D.py, PyData.eqv, D.eqv, str_eq]
  | .tup xs, b, _ => by
    cases b with
    | tup ys => simp only [D.py, PyData.eqv, D.eqv]; exact eqvL_py xs ys
    | _ => simp [D.py, PyData.eqv, D.eqv]
  | .lst xs, b, _ => by
    cases b with
    | lst ys => simp only [D.py, PyData.eqv, D.eqv]; exact eqvL_py xs ys
    | _ => simp [D.py, PyData.eqv, D.eqv]
  | .dic _ _, b, _ => by cases b <;> simp [D.py, PyData.eqv, D.eqv]
theorem eqvL_py : ∀ a b : List D, PyData.eqvAll (D.pyL a) (D.pyL b) = D.eqvL a b
  | [], [] => rfl
  | [], _ :: _ => rfl
  | _ :: _, [] => rfl
  | x :: xs, y :: ys => by simp only [D.pyL, PyData.eqvAll, D.eqvL, eqv_py x y rfl, eqvL_py xs ys]
end
mutual
theorem fit_lay : ∀ (a : D) (n : Nat), D.fit a n = true → a.py.canLay0 = true ∧ a.py.depth ≤ n
  | .non, n, _ => by simp [D.py, PyData.canLay0, PyData.depth]
  | .bl x, n, _ => by simp [D.py, PyData.canLay0, PyData.depth]
  | .int x, n, _ => by simp [D.py, PyData.canLay0, PyData.depth]
  | .str x, n, h => by
    simp only [D.fit, Bool.and_eq_true] at h
    refine ⟨?_, by simp [D.py, PyData.depth]⟩
    simp only [D.py, PyData.canLay0, PyData.strOk]
    simpa using h.1
  | .tup xs, n, h => by
    cases n with
    | zero => simp [D.fit] at h
    | succ n =>
      simp only [D.fit] at h
      obtain ⟨h1, h2⟩ := fitL_lay xs n h
      simp only [D.py, PyData.canLay0, PyData.depth]
      exact ⟨h1, by omega⟩
  | .lst xs, n, h => by
    cases n with
    | zero => simp [D.fit] at h
    | succ n =>
      simp only [D.fit] at h
      obtain ⟨h1, h2⟩ := fitL_lay xs n h
      simp only [D.py, PyData.canLay0, PyData.depth]
      exact ⟨h1, by omega⟩
  | .dic _ _, n, h => by simp [D.fit] at h
theorem fitL_lay : ∀ (a : List D) (n : Nat), D.fitL a n = true → PyData.canLayAll0 (D.pyL a) = true ∧ PyData.depthAll (D.pyL a) ≤ n
  | [], n, _ => by simp [D.pyL, PyData.canLayAll0, PyData.depthAll]
  | x :: xs, n, h => by
    simp only [D.fitL, Bool.and_eq_true] at h
    obtain ⟨h1, h2⟩ := fit_lay x n h.1
    obtain ⟨h3, h4⟩ := fitL_lay xs n h.2
    simp only [D.pyL, PyData.canLayAll0, PyData.depthAll, h1, h3]
    exact ⟨rfl, by omega⟩
end
theorem fit_shaped {a : D} {n : Nat} (h : D.fit a n = true) (hn : n ≤ 64) : SeqAt.shaped a.py = true := by
  obtain ⟨h1, h2⟩ := fit_lay a n h
  show (a.py.canLay0 && decide (a.py.depth ≤ 64)) = true
  rw [h1, Bool.true_and]
  exact decide_eq_true (by omega)

section
variable {K : PySem.W.Frag} {H : Hp} {Z : Addr → Prop}
mutual
theorem Rp.dp : ∀ (d : D) (n : Nat) (v : V), D.fit d n = true → Rp K H Z d v → Dp K H v d.py
  | .non, _, v, _, h => by simp only [Rp] at h; subst h; exact .non
  | .bl b, _, v, _, h => by simp only [Rp] at h; subst h; exact .bl b
  | .int i, _, v, _, h => by simp only [Rp] at h; subst h; exact .int i
  | .str s, _, v, _, h => by simp only [Rp] at h; subst h; exact .str _
  | .tup ds, n, v, f, h => by
    cases n with
    | zero => simp [D.fit] at f
    | succ n =>
      simp only [D.fit] at f
      simp only [Rp] at h
      obtain ⟨a, vs, rfl, q, r⟩ := h
      simp only [D.py]
      exact .tup q.sq (RpL.dp ds n vs f r)
  | .lst ds, n, v, f, h => by
    cases n with
    | zero => simp [D.fit] at f
    | succ n =>
      simp only [D.fit] at f
      simp only [Rp] at h
      obtain ⟨a, vs, rfl, q, r⟩ := h
      simp only [D.py]
      exact .lst (.inl q.2) (RpL.dp ds n vs f r)
  | .dic _ _, _, _, f, _ => by simp [D.fit] at f
theorem RpL.dp : ∀ (ds : List D) (n : Nat) (vs : List V), D.fitL ds n = true → RpL K H Z ds vs → DpAll K H vs (D.pyL ds)
  | [], _, vs, _, h => by rw [h.inv0]; exact .nil
  | d :: ds, n, vs, f, h => by
    obtain ⟨v, r, rfl, h1, h2⟩ := h.inv
    simp only [D.fitL, Bool.and_eq_true] at f
    exact .cons (Rp.dp d n v f.1 h1) (RpL.dp ds n r f.2 h2)
end
theorem Rb.dp {d : D} {n : Nat} {v : V} (f : D.fit d n = true) (h : Rb K H Z d v) : Dp K H v d.py := by
  rcases h with h | ⟨a, e, c⟩
  · exact Rp.dp d n v f h
  · subst e
    cases d with
    | lst ds =>
      obtain ⟨vs, q, r⟩ := c
      cases n with
      | zero => simp [D.fit] at f
      | succ n =>
        simp only [D.fit] at f
        simp only [D.py]
        exact .lst (.inl (.inl q)) (RpL.dp ds n vs f r)
    | dic _ _ => simp [D.fit] at f
    | _ => exact c.elim
/-- what a value is, by its tree's head -/
theorem Rb.isNon {d : D} {v : V} (h : Rb K H Z d v) : decide (v = .non) = isNon d := by
  cases d with
  | non => rw [h.non]; rfl
  | bl b => rw [h.bl]; rfl
  | int b => rw [h.int]; rfl
  | str b => rw [h.str]; rfl
  | tup ds => obtain ⟨a, vs, rfl, _⟩ := h.tup; rfl
  | lst ds => obtain ⟨a, vs, rfl, _⟩ := h.lst; rfl
  | dic _ _ => obtain ⟨a, vs, rfl, _⟩ := h.dic; rfl
theorem Rb.scal {p q : D} {x y : V} (hp : Rb K H Z p x) (hq : Rb K H Z q y) (s : D.scal p q = true) : L2.scal x y = true ∧ decide (x = y) = D.eqv p q := by
  cases p <;> cases q <;> first | (simp [D.scal] at s; done) | skip
  all_goals
    first
    | cases hp.non
    | cases hp.bl
    | cases hp.int
    | cases hp.str
  all_goals
    first
    | cases hq.non
    | cases hq.bl
    | cases hq.int
    | cases hq.str
  all_goals refine ⟨rfl, ?_⟩
  all_goals first
    | rfl
    | (simp only [D.eqv]; first | exact L2.dec_int | exact L2.dec_bl | (rw [L2.dec_str]; exact str_eq))
end

/-! ### comparisons -/
def cprOf : Cop → CmpOp
  | .eq => .Eq | .ne => .NotEq | .lt => .Lt | .le => .LtE | .gt => .Gt | .ge => .GtE | .is => .Is | .isn => .IsNot | .inn => .In | .nin => .NotIn
/-- a comparison's rule by values -/
def rCmp (K : PySem.W.Frag) (g : D → D → Option Bool) : R2 := fun x y H Q => ∃ (Z : Addr → Prop) (p q : D) (k : Bool), Rb K H Z p x ∧ Rb K H Z q y ∧ g p q = some k ∧ Q (.bl k) H
theorem eqD_ok {p q : D} {k : Bool} (e : eqD p q = some k) : k = D.eqv p q ∧ (D.scal p q = true ∨ (D.fit p 64 = true ∧ D.fit q 64 = true)) := by
  unfold eqD at e
  split at e
  · rename_i h; cases e; exact ⟨rfl, .inl h⟩
  · split at e
    · rename_i h
      cases e
      rw [Bool.and_eq_true] at h
      exact ⟨rfl, .inr h⟩
    · cases e
section
variable {X : Cx}
theorem cmp_eq (hu : X.A.units + 64 < cLine) : OpR X (compareOp .Eq) (rCmp X.K eqD) := by
  intro pins s σ H x y v u Q I rx ry h
  obtain ⟨Z, p, q, k, hp, hq, e, c⟩ := h
  try dsimp only at e
  obtain ⟨rfl, h⟩ := eqD_ok e
  rcases h with h | ⟨h1, h2⟩
  · obtain ⟨a, b⟩ := Rb.scal hp hq h
    exact op_eq pins s σ H x y v u Q I rx ry ⟨a, by rw [b]; exact c⟩
  · exact op_eqD hu pins s σ H x y v u Q I rx ry ⟨_, _, hp.dp h1, hq.dp h2, fit_shaped h1 (Nat.le_refl _), fit_shaped h2 (Nat.le_refl _), by rw [eqv_py _ _ rfl]; exact c⟩
theorem cmp_ne (hu : X.A.units + 64 < cLine) : OpR X (compareOp .NotEq) (rCmp X.K fun p q => (eqD p q).map (!·)) := by
  intro pins s σ H x y v u Q I rx ry h
  obtain ⟨Z, p, q, k, hp, hq, e, c⟩ := h
  try dsimp only at e
  cases e' : eqD p q with
  | none => rw [e'] at e; cases e
  | some k' =>
    rw [e'] at e
    cases e
    obtain ⟨rfl, h⟩ := eqD_ok e'
    rcases h with h | ⟨h1, h2⟩
    · obtain ⟨a, b⟩ := Rb.scal hp hq h
      exact op_ne pins s σ H x y v u Q I rx ry ⟨a, by rw [b]; exact c⟩
    · exact op_neD hu pins s σ H x y v u Q I rx ry ⟨_, _, hp.dp h1, hq.dp h2, fit_shaped h1 (Nat.le_refl _), fit_shaped h2 (Nat.le_refl _), by rw [eqv_py _ _ rfl]; exact c⟩
theorem lexN_lt : ∀ a b : List Nat, lexN a b = decide (a < b)
  | [], [] => by simp [lexN]
  | [], _ :: _ => by simp [lexN]
  | _ :: _, [] => by simp [lexN]
  | x :: xs, y :: ys => by
    unfold lexN
    by_cases h : x = y
    · rw [if_pos h, lexN_lt xs ys]; simp [h, List.cons_lt_cons_iff]
    · rw [if_neg h]
      have : Nat.blt x y = decide (x < y) := by rw [Bool.eq_iff_iff, decide_eq_true_eq, Nat.blt_eq]
      rw [this]
      simp [h, List.cons_lt_cons_iff]
theorem lexI_eq : ∀ a b : List Int, lexI a b = HT.lexLt a b
  | [], [] => rfl
  | [], _ :: _ => rfl
  | _ :: _, [] => rfl
  | x :: xs, y :: ys => by rw [HT.lexLt_cons, ← lexI_eq xs ys]; rfl
theorem cmp_lt (hu : X.A.units < cLine) : OpR X (compareOp .Lt) (rCmp X.K ltD) := by
  intro pins s σ H x y v u Q I rx ry h
  obtain ⟨Z, p, q, k, hp, hq, e, c⟩ := h
  try dsimp only at e
  cases p with
  | int i =>
    cases q with
    | int j =>
      simp only [ltD] at e
      cases e
      cases hp.int
      cases hq.int
      exact op_lt pins s σ H _ _ v u Q I rx ry ⟨_, _, rfl, rfl, c⟩
    | _ => simp [ltD] at e
  | str i =>
    cases q with
    | str j =>
      simp only [ltD] at e
      cases e
      cases hp.str
      cases hq.str
      refine op_lt_str pins s σ H _ _ v u Q I rx ry ⟨_, _, rfl, rfl, ?_⟩
      rw [lexN_lt] at c
      exact c
    | _ => simp [ltD] at e
  | tup a =>
    cases q with
    | tup b =>
      simp only [ltD] at e
      obtain ⟨pa, vs, rfl, fa, ra⟩ := hp.tup
      obtain ⟨pb, us, rfl, fb, rb⟩ := hq.tup
      cases ea : intsOf a with
      | none => rw [ea] at e; cases e
      | some ns =>
        cases eb : intsOf b with
        | none => rw [ea, eb] at e; cases e
        | some ms =>
          rw [ea, eb] at e
          cases e
          have h1 := ra.ints ea
          have h2 := rb.ints eb
          subst h1 h2
          exact op_ltT hu pins s σ H _ _ v u Q I rx ry ⟨_, _, ns, ms, rfl, rfl, fa.sq, fb.sq, by rw [← lexI_eq]; exact c⟩
    | _ => simp [ltD] at e
  | _ => cases q <;> simp [ltD] at e
theorem cmp_gt : OpR X (compareOp .Gt) (rCmp X.K (cmpD .gt)) := by
  intro pins s σ H x y v u Q I rx ry h
  obtain ⟨Z, p, q, k, hp, hq, e, c⟩ := h
  try dsimp only at e
  cases p <;> cases q <;> simp only [cmpD] at e <;> first | cases e | skip
  cases hp.int
  cases hq.int
  exact op_gt pins s σ H _ _ v u Q I rx ry ⟨_, _, rfl, rfl, c⟩
theorem cmp_le : OpR X (compareOp .LtE) (rCmp X.K (cmpD .le)) := by
  intro pins s σ H x y v u Q I rx ry h
  obtain ⟨Z, p, q, k, hp, hq, e, c⟩ := h
  try dsimp only at e
  cases p <;> cases q <;> simp only [cmpD] at e <;> first | cases e | skip
  cases hp.int
  cases hq.int
  exact op_le pins s σ H _ _ v u Q I rx ry ⟨_, _, rfl, rfl, c⟩
theorem cmp_ge : OpR X (compareOp .GtE) (rCmp X.K (cmpD .ge)) := by
  intro pins s σ H x y v u Q I rx ry h
  obtain ⟨Z, p, q, k, hp, hq, e, c⟩ := h
  try dsimp only at e
  cases p <;> cases q <;> simp only [cmpD] at e <;> first | cases e | skip
  cases hp.int
  cases hq.int
  exact op_ge pins s σ H _ _ v u Q I rx ry ⟨_, _, rfl, rfl, c⟩
theorem cmp_is : OpR X (compareOp .Is) (rCmp X.K isD) := by
  intro pins s σ H x y v u Q I rx ry h
  obtain ⟨Z, p, q, k, hp, hq, e, c⟩ := h
  try dsimp only at e
  cases q with
  | non =>
    have e' : some (isNon p) = some k := by cases p <;> simpa only [isD] using e
    cases e'
    cases hq.non
    exact op_isN pins s σ H _ _ v u Q I rx ry ⟨rfl, by rw [hp.isNon]; exact c⟩
  | bl b =>
    cases p with
    | bl a =>
      simp only [isD] at e
      cases e
      cases hp.bl
      cases hq.bl
      refine op_isBl pins s σ H _ _ v u Q I rx ry ⟨_, _, rfl, rfl, ?_⟩
      have : decide (a = b) = (a == b) := by cases a <;> cases b <;> rfl
      rw [this]
      exact c
    | _ => simp [isD] at e
  | _ => cases p <;> simp [isD] at e
theorem cmp_isn : OpR X (compareOp .IsNot) (rCmp X.K fun p q => (isD p q).map (!·)) := by
  intro pins s σ H x y v u Q I rx ry h
  obtain ⟨Z, p, q, k, hp, hq, e, c⟩ := h
  try dsimp only at e
  cases e' : isD p q with
  | none => rw [e'] at e; cases e
  | some k' =>
    rw [e'] at e
    cases e
    cases q with
    | non =>
      have e2 : some (isNon p) = some k' := by cases p <;> simpa only [isD] using e'
      cases e2
      cases hq.non
      exact op_notN pins s σ H _ _ v u Q I rx ry ⟨rfl, by rw [hp.isNon]; exact c⟩
    | bl b =>
      cases p with
      | bl a =>
        simp only [isD] at e'
        cases e'
        cases hp.bl
        cases hq.bl
        refine op_notBl pins s σ H _ _ v u Q I rx ry ⟨_, _, rfl, rfl, ?_⟩
        have : decide (a = b) = (a == b) := by cases a <;> cases b <;> rfl
        rw [this]
        exact c
      | _ => simp [isD] at e'
    | _ => cases p <;> simp [isD] at e'
end
end Cv
end

section
/-! CvF: membership, items, slices, truth, built-in functions. -/
set_option autoImplicit false
set_option linter.all false
set_option maxRecDepth 100000
namespace Cv
open PySem PySem.Spec L2

/-! ### keys -/
theorem eqv_keyD (k k' : Key) : D.eqv (keyD k) (keyD k') = decide (k = k') := by
  cases k with
  | inl i =>
    cases k' with
    | inl j => simp only [keyD, D.eqv]; rw [L2.key_ll]
    | inr y => simp only [keyD, D.eqv]; rw [L2.key_lr]
  | inr x =>
    cases k' with
    | inl j => simp only [keyD, D.eqv]; rw [L2.key_rl]
    | inr y =>
      simp only [keyD, D.eqv]
      rw [L2.key_rr]
      by_cases h : x = y
      · subst h; simp
      · have : ¬ x.cps.toList = y.cps.toList := fun q => h (by cases x; cases y; simp at q; rw [q])
        rw [beq_eq_false_iff_ne.mpr this, decide_eq_false h]
def keyOf : D → Option Key
  | .int i => some (.inl i)
  | .str s => some (.inr ⟨s.toArray⟩)
  | _ => none
theorem keyOf_ok {d : D} {k : Key} (h : keyOf d = some k) : d = keyD k := by
  cases d <;> simp [keyOf] at h <;> subst h <;> simp [keyD]
theorem keyD_of (k : Key) : keyOf (keyD k) = some k := by cases k <;> simp [keyD, keyOf]
theorem keyOk_of {d : D} (h : keyOk d = true) : ∃ k, keyOf d = some k := by
  cases d <;> simp [keyOk] at h <;> exact ⟨_, rfl⟩
section
variable {K : PySem.W.Frag} {H : Hp} {Z : Addr → Prop}
theorem Rb.key {k : Key} {v : V} (h : Rb K H Z (keyD k) v) : v = kV k := by
  cases k with
  | inl i => exact h.int
  | inr x => have := h.str; simpa [kV] using this
theorem memD_key (k : Key) : ∀ kvs : List (Key × V), memD (keyD k) (kvs.map fun p => keyD p.1) = (valV kvs k).isSome
  | [] => rfl
  | p :: r => by
    simp only [List.map_cons, memD, eqv_keyD]
    by_cases h : p.1 = k
    · rw [valV_pos h, decide_eq_true h]; rfl
    · rw [valV_neg h, decide_eq_false h, Bool.false_or, memD_key k r]
theorem findK_key (k : Key) : ∀ (kvs : List (Key × V)) (ws : List D), RpL K H Z ws (kvs.map (·.2)) → match findK (keyD k) (kvs.map fun p => keyD p.1) ws with
    | some d => ∃ v, valV kvs k = some v ∧ Rp K H Z d v
    | none => valV kvs k = none
  | [], ws, h => by
    cases ws with
    | nil => rfl
    | cons _ _ => have := h.length; simp at this
  | p :: r, ws, h => by
    cases ws with
    | nil => have := h.length; simp at this
    | cons d ws =>
      obtain ⟨v, t, e, h1, h2⟩ := h.inv
      simp only [List.map_cons, List.cons.injEq] at e
      obtain ⟨rfl, rfl⟩ := e
      simp only [List.map_cons, findK, eqv_keyD]
      by_cases h : p.1 = k
      · rw [decide_eq_true h, if_pos rfl, valV_pos h]
        exact ⟨_, rfl, h1⟩
      · rw [decide_eq_false h, if_neg Bool.false_ne_true, valV_neg h]
        exact findK_key k r ws h2
end

/-! ### in -/
theorem memD_any (x : D) : ∀ ys : List D, (D.pyL ys).any (fun z => PyData.eqv z x.py) = memD x ys
  | [] => rfl
  | y :: r => by simp only [D.pyL, List.any_cons, memD, eqv_py y x rfl, memD_any x r]
theorem fit_mono : ∀ (d : D) (n m : Nat), n ≤ m → D.fit d n = true → D.fit d m = true := fun d => by
  exact D.rec (motive_1 := fun d => ∀ n m : Nat, n ≤ m → D.fit d n = true → D.fit d m = true) (motive_2 := fun l => ∀ n m : Nat, n ≤ m → D.fitL l n = true → D.fitL l m = true)
    (fun _ _ _ _ => rfl) (fun _ _ _ _ _ => rfl) (fun _ _ _ _ _ => rfl) (fun s n m _ h => by simpa only [D.fit] using h)
    (fun xs ih n m hm h => by
      cases n with
      | zero => simp [D.fit] at h
      | succ n =>
        cases m with
        | zero => omega
        | succ m => simp only [D.fit] at h ⊢; exact ih n m (by omega) h)
    (fun xs ih n m hm h => by
      cases n with
      | zero => simp [D.fit] at h
      | succ n =>
        cases m with
        | zero => omega
        | succ m => simp only [D.fit] at h ⊢; exact ih n m (by omega) h)
    (fun _ _ _ _ n m _ h => by simp [D.fit] at h) (fun _ _ _ _ => rfl)
    (fun x xs ih1 ih2 n m hm h => by
      simp only [D.fitL, Bool.and_eq_true] at h ⊢
      exact ⟨ih1 n m hm h.1, ih2 n m hm h.2⟩) d
section
variable {X : Cx}
theorem in_body (hu : X.A.units + 65 < cLine) (neg : Bool) : OpR X (compareOp (if neg then .NotIn else .In)) (rCmp X.K fun p q => (inD p q).map fun k => if neg then !k else k) := by
  intro pins s σ H x y v u Q I rx ry h
  obtain ⟨Z, p, q, k, hp, hq, e, c⟩ := h
  dsimp only at e
  cases e' : inD p q with
  | none => rw [e'] at e; cases e
  | some k' =>
    rw [e'] at e
    simp only [Option.map_some, Option.some.injEq] at e
    subst e
    have fin : ∀ s', Inv X pins σ H s' → EP X pins σ Q (.bool (if neg then !k' else k')) s' := fun s' I' => ⟨.bl _, H, I', rfl, c⟩
    have dic : ∀ ks ws (key : Key), q = .dic ks ws → p = keyD key → k' = memD p ks → wpAny (model X.prog X.w) X.A (compareOp (if neg then .NotIn else .In) v u) (EP X pins σ Q) X.xe s := fun ks ws key e1 e2 e3 => by
      subst e1 e2 e3
      obtain ⟨a, kvs, rfl, rd, rfl, _⟩ := hq.dic
      cases hp.key
      cases (show u = Value.ref a from ry)
      have g : DGet H a (kV key) (valV kvs key) := .inl ⟨kvs, key, rd, rfl, rfl⟩
      rw [memD_key] at fin
      cases neg with
      | true => exact d_notIn (by omega) I g rx fun s' I' => fin s' I'
      | false => exact d_in (by omega) I g rx fun s' I' => fin s' I'
    cases q with
    | tup ys =>
      have e1 : (if D.fit p 60 && D.fitL ys 60 then some (memD p ys) else none) = some k' := by cases p <;> simpa only [inD] using e'
      split at e1
      · rename_i h
        cases e1
        rw [Bool.and_eq_true] at h
        have hd := hp.dp h.1
        have he : Dp X.K H y (.tuple (D.pyL ys)) := by
          have := hq.dp (n := 61) (by simp only [D.fit]; exact h.2)
          simpa only [D.py] using this
        obtain ⟨as, r1⟩ := Dp.reads I _ x v hd rx
        obtain ⟨bs, r2⟩ := Dp.reads I _ y u he ry
        have sd := fit_shaped h.1 (by decide)
        have se := (fitL_lay ys 60 h.2).1
        rw [← memD_any] at fin
        cases neg with
        | true => exact SeqAt.notIn_tuple_reads r2 r1 se (SeqAt.canLay_of_shaped sd) (PyProof.Rows.room_in_shaped sd hu) (fin s I)
        | false => exact SeqAt.in_tuple_reads r2 r1 se (SeqAt.canLay_of_shaped sd) (PyProof.Rows.room_in_shaped sd hu) (fin s I)
      · cases e1
    | lst ys =>
      have e1 : (if D.fit p 60 && D.fitL ys 60 then some (memD p ys) else none) = some k' := by cases p <;> simpa only [inD] using e'
      split at e1
      · rename_i h
        cases e1
        rw [Bool.and_eq_true] at h
        have hd := hp.dp h.1
        have he : Dp X.K H y (.list (D.pyL ys)) := by
          have := hq.dp (n := 61) (by simp only [D.fit]; exact h.2)
          simpa only [D.py] using this
        obtain ⟨as, r1⟩ := Dp.reads I _ x v hd rx
        obtain ⟨bs, r2⟩ := Dp.reads I _ y u he ry
        have sd := fit_shaped h.1 (by decide)
        have se := (fitL_lay ys 60 h.2).1
        rw [← memD_any] at fin
        cases neg with
        | true => exact SeqAt.notIn_list_reads r2 r1 se (SeqAt.canLay_of_shaped sd) (PyProof.Rows.room_in_shaped sd hu) (fin s I)
        | false => exact SeqAt.in_list_reads r2 r1 se (SeqAt.canLay_of_shaped sd) (PyProof.Rows.room_in_shaped sd hu) (fin s I)
      · cases e1
    | str z =>
      cases p with
      | str cs =>
        cases cs with
        | nil => simp [inD] at e'
        | cons c1 r =>
          cases r with
          | nil =>
            simp only [inD, Option.some.injEq] at e'
            cases hp.str
            cases hq.str
            have ec : decide (c1 ∈ (⟨z.toArray⟩ : Str).cps.toList) = k' := by rw [← e']; simp
            cases neg with
            | true => exact op_notIn_sign pins s σ H _ _ v u Q I rx ry ⟨c1, _, rfl, rfl, by rw [ec]; exact c⟩
            | false => exact op_in_sign pins s σ H _ _ v u Q I rx ry ⟨c1, _, rfl, rfl, by rw [ec]; exact c⟩
          | cons _ _ => simp [inD] at e'
      | _ => simp [inD] at e'
    | dic ks ws =>
      cases p with
      | int i => simp only [inD, Option.some.injEq] at e'; exact dic ks ws (.inl i) rfl rfl e'.symm
      | str t =>
        have e2 : some (memD (.str t) ks) = some k' := by
          cases t with
          | nil => simpa only [inD] using e'
          | cons c r => cases r <;> simpa only [inD] using e'
        exact dic ks ws (.inr ⟨t.toArray⟩) rfl (by simp [keyD]) (by simpa using e2.symm)
      | _ => simp [inD] at e'
    | _ =>
      exfalso
      cases p with
      | str t => cases t with
        | nil => simp [inD] at e'
        | cons c r => cases r <;> simp [inD] at e'
      | _ => simp [inD] at e'
theorem cmp_all (hu : X.A.units + 65 < cLine) (o : Cop) : OpR X (compareOp (cprOf o)) (rCmp X.K (cmpD o)) := by
  have z : X.A.units + 64 < cLine := by omega
  cases o with
  | eq => exact cmp_eq z
  | ne => exact cmp_ne z
  | lt => exact cmp_lt (by omega)
  | le => exact cmp_le
  | gt => exact cmp_gt
  | ge => exact cmp_ge
  | is => exact cmp_is
  | isn => exact cmp_isn
  | inn =>
    intro pins s σ H x y v u Q I rx ry ⟨Z, p, q, k, hp, hq, e, c⟩
    exact in_body hu false pins s σ H x y v u Q I rx ry ⟨Z, p, q, k, hp, hq, by simp only [cmpD] at e; simp [e], c⟩
  | nin =>
    intro pins s σ H x y v u Q I rx ry ⟨Z, p, q, k, hp, hq, e, c⟩
    exact in_body hu true pins s σ H x y v u Q I rx ry ⟨Z, p, q, k, hp, hq, by simp only [cmpD] at e; simpa using e, c⟩

/-! ### truth -/
theorem tru_d (zt : True) {H : Hp} {Z : Addr → Prop} {d : D} {v : V} {k : Bool} (h : Rb X.K H Z d v) (e : truth d = some k) : TruV X.K v H k := by
  cases d with
  | non => cases h.non; simp only [truth, Option.some.injEq] at e; exact e.symm
  | bl b => cases h.bl; simp only [truth, Option.some.injEq] at e; exact e.symm
  | int b => cases h.int; simp only [truth, Option.some.injEq] at e; exact e.symm
  | str s =>
    cases h.str
    simp only [truth] at e
    split at e
    · rename_i hl
      cases e
      refine ⟨by have := lenOk_le hl; simpa [Str.length] using this, ?_⟩
      cases s with
      | nil => rfl
      | cons c r =>
        have : (⟨(c :: r).toArray⟩ : Str).length ≠ 0 := by simp [Str.length]
        simp [this]
    · cases e
  | tup ds =>
    obtain ⟨a, vs, rfl, f, r⟩ := h.tup
    simp only [truth, Option.some.injEq] at e
    refine .inr (.inl ⟨vs, f.sq, ?_⟩)
    have := r.length
    cases ds <;> cases vs <;> simp_all
  | lst ds =>
    obtain ⟨a, vs, rfl, f, r⟩ := h.lst
    simp only [truth, Option.some.injEq] at e
    refine .inl ⟨vs, .inl f, ?_⟩
    have := r.length
    cases ds <;> cases vs <;> simp_all
  | dic _ _ => simp [truth] at e

/-! ### items -/
def rIxD (K : PySem.W.Frag) : R2 := fun x y H Q => ∃ (Z : Addr → Prop) (p q d : D), Rb K H Z p x ∧ Rb K H Z q y ∧ ixD p q = some d ∧ ∀ w, Rp K H Z d w → Q w H
theorem atI_rp {K : PySem.W.Frag} {H : Hp} {Z : Addr → Prop} {ds : List D} {vs : List V} {i : Int} {d : D} (r : RpL K H Z ds vs) (e : atI ds i = some d) : ∃ v, L2.atI vs i = some v ∧ Rp K H Z d v := by
  unfold atI at e
  unfold L2.atI
  have hl := r.length
  have hi : L2.ixN vs.length i = ixN ds.length i := by rw [hl]; rfl
  rw [hi]
  cases q : ixN ds.length i with
  | none => rw [q] at e; cases e
  | some j =>
    rw [q] at e
    obtain ⟨v, e1, e2⟩ := r.get (i := j) (d := d) e
    exact ⟨v, e1, e2⟩
theorem ix_seqD : IxR X (fun x y H Q => ∃ (Z : Addr → Prop) (p q d : D), (∀ ks ws, p ≠ .dic ks ws) ∧ Rb X.K H Z p x ∧ Rb X.K H Z q y ∧ ixD p q = some d ∧ ∀ w, Rp X.K H Z d w → Q w H) := by
  intro value slice pins s σ H x y v u Q I rx ry h hs
  obtain ⟨Z, p, q, d, nd, hp, hq, e, c⟩ := h
  cases p with
  | lst ds =>
    cases q with
    | int i =>
      simp only [ixD] at e
      obtain ⟨a, vs, rfl, f, r⟩ := hp.lst
      cases hq.int
      obtain ⟨w, e1, e2⟩ := atI_rp r e
      exact ix_list value slice pins s σ H _ _ v u Q I rx ry ⟨a, vs, i, w, rfl, rfl, .inl f, e1, c w e2⟩ hs
    | _ => simp [ixD] at e
  | tup ds =>
    cases q with
    | int i =>
      simp only [ixD] at e
      obtain ⟨a, vs, rfl, f, r⟩ := hp.tup
      cases hq.int
      obtain ⟨w, e1, e2⟩ := atI_rp r e
      exact ix_tup value slice pins s σ H _ _ v u Q I rx ry ⟨a, vs, i, w, rfl, rfl, f.sq, e1, c w e2⟩ hs
    | _ => simp [ixD] at e
  | str cs =>
    cases q with
    | int i =>
      simp only [ixD] at e
      split at e
      · rename_i hl
        cases hp.str
        cases hq.int
        cases e1 : atI cs i with
        | none => rw [e1] at e; cases e
        | some c1 =>
          rw [e1] at e
          cases e
          exact ix_str value slice pins s σ H _ _ v u Q I rx ry ⟨_, i, c1, rfl, rfl, by have := lenOk_le hl; simpa [Str.length] using this, by simpa using (show L2.atI cs i = some c1 from e1), c _ rp_str⟩ hs
      · cases e
    | _ => simp [ixD] at e
  | dic ks ws => exact absurd rfl (nd ks ws)
  | _ => cases q <;> simp [ixD] at e

/-! ### slices -/
theorem sIx_eq (n d : Nat) (o : Option Int) : sIx n d o = HT.sIx n d o := by
  cases o with
  | none => rfl
  | some v =>
    simp only [sIx, HT.sIx]
    split
    · rfl
    · split
      · omega
      · omega
theorem cut_eq {K : PySem.W.Frag} {H : Hp} {Z : Addr → Prop} {ds : List D} {vs : List V} (r : RpL K H Z ds vs) (lo hi : Option Int) : RpL K H Z (cutL ds lo hi) (cutV vs lo hi) := by
  unfold cutL cutV
  rw [sIx_eq, sIx_eq, r.length]
  exact (r.drop _).take _
def rSlD (K : PySem.W.Frag) : V → Option Int → Option Int → Hp → VK → Prop := fun x lo hi H Q => ∃ (Z : Addr → Prop) (p d : D), (∀ a, Z a → H a ≠ none) ∧ Rb K H Z p x ∧ slD p lo hi = some d ∧ ∀ w H', Same H H' → Rp K H' Z d w → Q w H'
theorem sl_all : SlR X (rSlD X.K) := by
  intro pins s σ H x v vl vu lo hi sl Q I rx hs pl pu h
  obtain ⟨Z, p, d, zt, hp, e, c⟩ := h
  cases p with
  | lst ds =>
    simp only [slD, Option.some.injEq] at e
    subst e
    obtain ⟨a, vs, rfl, f, r⟩ := hp.lst
    exact sl_list pins s σ H _ v vl vu lo hi sl Q I rx hs pl pu ⟨a, vs, rfl, .inl f, fun p hp => c _ _ (same_upd hp) (rp_lst hp (nz_of zt hp) (cut_eq r lo hi))⟩
  | tup ds =>
    simp only [slD, Option.some.injEq] at e
    subst e
    obtain ⟨a, vs, rfl, f, r⟩ := hp.tup
    refine sl_tupF pins s σ H _ v vl vu lo hi sl Q I rx hs pl pu ⟨a, vs, rfl, f.sq, fun ⟨h1, h2⟩ => ?_, fun _ p o hp po => c _ _ (same_upd hp) (rp_tup hp (nz_of zt hp) (cut_eq r lo hi) po)⟩
    refine c _ _ (Same.refl _) ?_
    have : cutL ds lo hi = ds := by
      unfold cutL
      rw [sIx_eq, sIx_eq, ← r.length, h1, h2, r.length]
      simp
    rw [this]
    simp only [Rp]
    exact ⟨a, vs, rfl, f, r⟩
  | str cs =>
    simp only [slD] at e
    split at e
    · rename_i hl
      cases e
      cases hp.str
      refine sl_str pins s σ H _ v vl vu lo hi sl Q I rx hs pl pu ⟨_, rfl, by have := lenOk_le hl; simpa [Str.length] using this, c _ _ (Same.refl _) ?_⟩
      have : cutS ⟨cs.toArray⟩ lo hi = ⟨(cutL cs lo hi).toArray⟩ := by
        unfold cutS cutL
        rw [sIx_eq, sIx_eq]
        simp [Str.length]
      rw [this]
      exact rp_str
    · cases e
  | _ => simp [slD] at e
end
end Cv
end

section
/-! CvG: sorting, built-in functions by values. -/
set_option autoImplicit false
set_option linter.all false
set_option maxRecDepth 100000
namespace Cv
open PySem PySem.Spec L2

/-! ### the order -/
mutual
theorem alike_py : ∀ a b : D, D.alike a b = true → PySem.W.alike a.py b.py = true
  | .non, b, h => by cases b <;> simp [D.alike] at h
  | .bl _, b, h => by cases b <;> simp [D.alike] at h <;> simp [D.py, PySem.W.alike]
  | .int _, b, h => by cases b <;> simp [D.alike] at h <;> simp [D.py, PySem.W.alike]
  | .str _, b, h => by cases b <;> simp [D.alike] at h <;> simp [D.py, PySem.W.alike]
  | .tup xs, b, h => by
    cases b with
    | tup ys => simp only [D.alike] at h; simp only [D.py, PySem.W.alike]; exact alikeL_py xs ys h
    | _ => simp [D.alike] at h
  | .lst xs, b, h => by
    cases b with
    | lst ys => simp only [D.alike] at h; simp only [D.py, PySem.W.alike]; exact alikeL_py xs ys h
    | _ => simp [D.alike] at h
  | .dic _ _, b, h => by cases b <;> simp [D.alike] at h
theorem alikeL_py : ∀ a b : List D, D.alikeL a b = true → PySem.W.alikeAll (D.pyL a) (D.pyL b) = true
  | [], _, _ => by simp [D.pyL, PySem.W.alikeAll]
  | _ :: _, [], _ => by simp [D.pyL, PySem.W.alikeAll]
  | x :: xs, y :: ys, h => by
    simp only [D.alikeL, Bool.and_eq_true] at h
    simp only [D.pyL, PySem.W.alikeAll, Bool.and_eq_true]
    exact ⟨alike_py x y h.1, alikeL_py xs ys h.2⟩
end
theorem rowLt_nil : PySem.W.rowLt [] [] = false := PyProof.Rows.lex_irrefl (O := PyProof.Rows.itemOrd) _
theorem rowLt_nil_cons (y : PyData) (ys : List PyData) : PySem.W.rowLt [] (y :: ys) = true := by
  unfold PySem.W.rowLt
  rw [PySem.W.toks_all_cons]
  simp only [PySem.W.keyToksAll]
  rw [PyProof.Rows.lex_diff (O := PyProof.Rows.itemOrd) (by simp)]
  rfl
theorem rowLt_cons_nil (y : PyData) (ys : List PyData) : PySem.W.rowLt (y :: ys) [] = false := by
  unfold PySem.W.rowLt
  rw [PySem.W.toks_all_cons]
  simp only [PySem.W.keyToksAll]
  rw [PyProof.Rows.lex_diff (O := PyProof.Rows.itemOrd) (by simp)]
  rfl
mutual
theorem lt_py : ∀ a b : D, D.alike a b = true → PySem.W.dataLt a.py b.py = D.lt a b
  | .non, b, h => by cases b <;> simp [D.alike] at h
  | .bl x, b, h => by
    cases b with
    | bl y => simp only [D.py, D.lt, PySem.W.dataLt_bool]; cases x <;> cases y <;> rfl
    | _ => simp [D.alike] at h
  | .int x, b, h => by
    cases b with
    | int y => simp only [D.py, D.lt, PySem.W.dataLt_int]
    | _ => simp [D.alike] at h
  | .str x, b, h => by
    cases b with
    | str y => simp only [D.py, D.lt, PySem.W.dataLt_str, lexN_lt]
    | _ => simp [D.alike] at h
  | .tup xs, b, h => by
    cases b with
    | tup ys =>
      simp only [D.alike] at h
      simp only [D.py, D.lt]
      rw [PySem.W.dataLt_tuple]
      exact ltL_py xs ys h
    | _ => simp [D.alike] at h
  | .lst xs, b, h => by
    cases b with
    | lst ys =>
      simp only [D.alike] at h
      simp only [D.py, D.lt]
      rw [PySem.W.dataLt_list]
      exact ltL_py xs ys h
    | _ => simp [D.alike] at h
  | .dic _ _, b, h => by cases b <;> simp [D.alike] at h
theorem ltL_py : ∀ a b : List D, D.alikeL a b = true → PySem.W.rowLt (D.pyL a) (D.pyL b) = D.ltL a b
  | [], [], _ => rowLt_nil
  | [], _ :: _, _ => by simp only [D.pyL, D.ltL]; exact rowLt_nil_cons _ _
  | _ :: _, [], _ => by simp only [D.pyL, D.ltL]; exact rowLt_cons_nil _ _
  | x :: xs, y :: ys, h => by
    simp only [D.alikeL, Bool.and_eq_true] at h
    simp only [D.pyL, D.ltL]
    unfold PySem.W.rowLt
    rw [PySem.W.dataLt_cons (alike_py x y h.1), eqv_py x y rfl, lt_py x y h.1]
    have := ltL_py xs ys h.2
    unfold PySem.W.rowLt at this
    rw [this]
end
theorem alikeEach_ok : ∀ {xs : List D}, alikeEach xs = true → ∀ a ∈ xs, ∀ b ∈ xs, D.alike a b = true
  | [], _, a, ha, _, _ => by simp at ha
  | x :: r, h, a, ha, b, hb => by
    simp only [alikeEach, Bool.and_eq_true, List.all_eq_true] at h
    obtain ⟨⟨h1, h2⟩, h3⟩ := h
    rcases List.mem_cons.mp ha with e | ha
    · rcases List.mem_cons.mp hb with e' | hb
      · rw [e, e']; exact h1
      · rw [e]; exact (h2 b hb).1
    · rcases List.mem_cons.mp hb with e | hb
      · rw [e]; exact (h2 a ha).2
      · exact alikeEach_ok h3 a ha b hb
theorem ins_mem {x : D} : ∀ {ys : List D} {z : D}, z ∈ ins x ys ↔ z = x ∨ z ∈ ys
  | [], z => by simp [ins]
  | y :: r, z => by
    unfold ins
    split
    · rw [List.mem_cons, ins_mem, List.mem_cons]
      constructor
      · rintro (h | h | h) <;> simp [h]
      · rintro (h | h | h) <;> simp [h]
    · simp
theorem isort_mem : ∀ {xs : List D} {z : D}, z ∈ isort xs ↔ z ∈ xs
  | [], z => by simp [isort]
  | x :: r, z => by rw [isort, ins_mem, isort_mem, List.mem_cons]
theorem isort_length : ∀ xs : List D, (isort xs).length = xs.length
  | [] => rfl
  | x :: r => by
    have : ∀ ys, (ins x ys).length = ys.length + 1 := fun ys => by
      induction ys with
      | nil => rfl
      | cons y r ih => unfold ins; split <;> simp [ih]
    rw [isort, this, isort_length r, List.length_cons]
/-- le of the sort: not the other way -/
abbrev leD : D → D → Bool := PySem.W.dataLe false D.py
theorem leD_def (a b : D) : leD a b = !PySem.W.dataLt b.py a.py := rfl
theorem leD_total (a b : D) : (leD a b || leD b a) = true := by
  have h := (PySem.W.sortLe_total (PyProof.Rows.listOrd PyProof.Rows.itemOrd) false fun d : D => PySem.W.keyToks d.py).total a b
  rw [Bool.or_eq_true]
  exact h
theorem leD_trans (a b c : D) (h1 : leD a b = true) (h2 : leD b c = true) : leD a c = true :=
  (PySem.W.sortLe_total (PyProof.Rows.listOrd PyProof.Rows.itemOrd) false fun d : D => PySem.W.keyToks d.py).trans a b c h1 h2
theorem isort_merge : ∀ (xs : List D), (∀ a ∈ xs, ∀ b ∈ xs, D.alike a b = true) → isort xs = xs.mergeSort leD
  | [], _ => by simp [isort]
  | x :: r, h => by
    have ih := isort_merge r fun a ha b hb => h a (List.mem_cons_of_mem _ ha) b (List.mem_cons_of_mem _ hb)
    obtain ⟨l1, l2, e1, e2, e3⟩ := List.mergeSort_cons leD_trans leD_total x r
    have srt := List.pairwise_mergeSort leD_trans leD_total (x :: r)
    rw [e1] at srt ⊢
    rw [isort, ih, e2]
    have mem : ∀ y, y ∈ l1 ∨ y ∈ l2 → D.alike y x = true := fun y hy => by
      have : y ∈ r := by
        have q : y ∈ r.mergeSort leD := by rw [e2]; simpa using hy
        exact (List.mergeSort_perm r leD).mem_iff.mp q
      exact h y (List.mem_cons_of_mem _ this) x List.mem_cons_self
    have lt_eq : ∀ y, y ∈ l1 ∨ y ∈ l2 → D.lt y x = !leD x y := fun y hy => by rw [leD_def, Bool.not_not, lt_py y x (mem y hy)]
    clear e1 e2 ih
    induction l1 with
    | nil =>
      cases l2 with
      | nil => rfl
      | cons y l2 =>
        show ins x (y :: l2) = x :: y :: l2
        have : leD x y = true := by
          have := List.pairwise_cons.mp srt
          exact this.1 y List.mem_cons_self
        unfold ins
        rw [lt_eq y (.inr List.mem_cons_self), this]
        rfl
    | cons y l1 ih =>
      show ins x (y :: (l1 ++ l2)) = y :: (l1 ++ x :: l2)
      unfold ins
      rw [lt_eq y (.inl List.mem_cons_self), if_pos (e3 y List.mem_cons_self)]
      congr 1
      exact ih (fun b hb => e3 b (List.mem_cons_of_mem _ hb)) (List.pairwise_cons.mp srt).2 (fun z hz => mem z (hz.imp (List.mem_cons_of_mem _) id)) fun z hz => lt_eq z (hz.imp (List.mem_cons_of_mem _) id)

/-! ### built-in functions -/
def fnOf : B1 → Value
  | .abs => .builtin "abs" | .int => .type "int" | .bool => .type "bool" | .len => .builtin "len" | .sum => .builtin "sum" | .any => .builtin "any" | .all => .builtin "all"
  | .min => .builtin "min" | .max => .builtin "max" | .tuple => .type "tuple" | .list => .type "list" | .sorted => .builtin "sorted" | .str => .type "str" | .dict => .type "dict"
def rB1 (K : PySem.W.Frag) (f : B1) : List V → Hp → VK → Prop := fun xs H Q => ∃ (Z : Addr → Prop) (x : V) (p d : D), xs = [x] ∧ (∀ a, Z a → H a ≠ none) ∧ Rb K H Z p x ∧ b1 f p = some d ∧ ∀ w H', Same H H' → Rp K H' Z d w → Q w H'
/-- a new list -/
def rB1F (K : PySem.W.Frag) (f : B1) : List V → Hp → VK → Prop := fun xs H Q => ∃ (Z : Addr → Prop) (x : V) (p : D) (ds : List D), xs = [x] ∧ Rb K H Z p x ∧ b1 f p = some (.lst ds) ∧ ∀ q us, H q = none → RpL K H Z ds us → Q (.ref q) (upd H q (.lst us))
theorem minI_ok : ∀ (r : List Int) (m : Int), (minI m r = m ∨ minI m r ∈ r) ∧ minI m r ≤ m ∧ ∀ y ∈ r, minI m r ≤ y
  | [], m => by simp [minI]
  | x :: r, m => by
    unfold minI
    split
    · obtain ⟨a, b, c⟩ := minI_ok r x
      refine ⟨.inr ?_, by omega, fun y hy => ?_⟩
      · rcases a with a | a
        · rw [a]; exact List.mem_cons_self
        · exact List.mem_cons_of_mem _ a
      · rcases List.mem_cons.mp hy with rfl | hy
        · exact b
        · exact c y hy
    · obtain ⟨a, b, c⟩ := minI_ok r m
      refine ⟨a.imp id (List.mem_cons_of_mem _), b, fun y hy => ?_⟩
      rcases List.mem_cons.mp hy with rfl | hy
      · omega
      · exact c y hy
theorem maxI_ok : ∀ (r : List Int) (m : Int), (maxI m r = m ∨ maxI m r ∈ r) ∧ m ≤ maxI m r ∧ ∀ y ∈ r, y ≤ maxI m r
  | [], m => by simp [maxI]
  | x :: r, m => by
    unfold maxI
    split
    · obtain ⟨a, b, c⟩ := maxI_ok r x
      refine ⟨.inr ?_, by omega, fun y hy => ?_⟩
      · rcases a with a | a
        · rw [a]; exact List.mem_cons_self
        · exact List.mem_cons_of_mem _ a
      · rcases List.mem_cons.mp hy with rfl | hy
        · exact b
        · exact c y hy
    · obtain ⟨a, b, c⟩ := maxI_ok r m
      refine ⟨a.imp id (List.mem_cons_of_mem _), b, fun y hy => ?_⟩
      rcases List.mem_cons.mp hy with rfl | hy
      · omega
      · exact c y hy
theorem each_of {K : PySem.W.Frag} {H : Hp} {Z : Addr → Prop} : ∀ {ds : List D} {vs : List V} {us : List Value}, RpL K H Z ds vs → Vals vs us → PySem.W.EachIs (fun u d => ∃ v, RelV v u ∧ Rp K H Z d v) us ds
  | [], _, _, h, r => by rw [h.inv0] at r; cases r; exact .nil
  | d :: ds, _, _, h, r => by
    obtain ⟨v, t, rfl, h1, h2⟩ := h.inv
    cases r with
    | cons r1 r2 => exact .cons ⟨v, r1, h1⟩ (each_of h2 r2)
theorem of_each {K : PySem.W.Frag} {H : Hp} {Z : Addr → Prop} : ∀ {ds : List D} {us : List Value}, PySem.W.EachIs (fun u d => ∃ v, RelV v u ∧ Rp K H Z d v) us ds → ∃ vs, RpL K H Z ds vs ∧ Vals vs us
  | [], _, h => by cases h; exact ⟨[], RpL.nil, .nil⟩
  | d :: ds, _, h => by
    cases h with
    | cons h1 h2 =>
      obtain ⟨v, r, q⟩ := h1
      obtain ⟨vs, r2, q2⟩ := of_each h2
      exact ⟨v :: vs, RpL.cons q r2, .cons r q2⟩
theorem each_imp {α β : Type} {R S : α → β → Prop} {l : List α} {m : List β} (h : PySem.W.EachIs R l m) (i : ∀ a b, b ∈ m → R a b → S a b) : PySem.W.EachIs S l m := by
  induction h with
  | nil => exact .nil
  | cons h1 _ ih => exact .cons (i _ _ List.mem_cons_self h1) (ih fun a b hb => i a b (List.mem_cons_of_mem _ hb))
theorem fitL_mem : ∀ {xs : List D} {n : Nat} {d : D}, D.fitL xs n = true → d ∈ xs → D.fit d n = true
  | [], _, _, _, h => by simp at h
  | x :: xs, n, d, f, h => by
    simp only [D.fitL, Bool.and_eq_true] at f
    rcases List.mem_cons.mp h with rfl | h
    · exact f.1
    · exact fitL_mem f.2 h
/-- at most one value: there is nothing to sort -/
theorem sortsAt_few {prog : Program} {w : World} {A : Around} {s : Shared} {vs : List Value} {ds : List PySem.PyData}
    (e : PySem.W.EachIs (fun v d => ∃ as, Reads s.heap v d as) vs ds) (al : PySem.W.AllAlike ds) (nn : ∀ d ∈ ds, d ≠ PySem.PyData.none)
    (hu : ∀ d ∈ ds, A.units + d.depth < cLine) (h1 : vs.length ≤ 1) : PySem.W.SortsAt prog w A s (PySem.W.dataKind s.heap ds) vs := by
  refine ⟨fun v hv => ?_, PyProof.Rows.general', ?_, fun h2 => absurd h2 (by omega)⟩
  · have ⟨d, hd, as, r⟩ := e.left v hv
    exact ⟨_, PySem.W.dataKind_some al hd r⟩
  · intro E x y a b Q ha hb hq
    have ⟨d, as, hd, ra, ea⟩ := PySem.W.dataKind_inv ha
    have ⟨d', as', hd', rb, eb⟩ := PySem.W.dataKind_inv hb
    subst ea eb
    have := hu d hd
    exact PySem.W.oneLt_alike (f := false) (fun z => absurd z Bool.false_ne_true) ra rb (al d hd d' hd') (nn d hd) (by omega) hq
/-- sorted, also of one value that could not be sorted among others -/
theorem sorted_of {prog : Program} {w : World} {A : Around} {E : Value → Shared → Prop} {s : Shared} {β : Type} {vs : List Value} {bs : List β} {enc : β → PySem.PyData} {R : Value → β → Prop} {l : Addr} {Q : Value → Shared → Prop}
    (hl : s.heap.IsList l vs.toArray) (e : PySem.W.EachIs R vs bs) (er : PySem.W.EachIs (fun v b => ∃ as, Reads s.heap v (enc b) as) vs bs) (al : PySem.W.AllAlike (bs.map enc))
    (hk : PySem.W.Sortable (bs.map enc) ∨ (bs.length ≤ 1 ∧ ∀ d ∈ bs.map enc, d ≠ PySem.PyData.none)) (hL : bs.length ≤ sizeLine) (hu : ∀ b, b ∈ bs → A.units + 2 + (enc b).depth < cLine)
    (h : ∀ out, out.length = bs.length → PySem.W.EachIs R out (bs.mergeSort (PySem.W.dataLe false enc)) → Q (.ref (s.heap.objs.size + 1)) { s with heap := PyProof.Rows.sortedAll s.heap vs (List.toArray out) }) :
    wpAny (model prog w) A (call (.builtin "sorted") [.ref l]) Q E s := by
  have er2 : PySem.W.EachIs (fun v b => ∃ as, Reads (PySem.W.sortingHeap (PySem.W.copyHeap s.heap vs) (s.heap.objs.size + 1) vs) v (enc b) as) vs bs :=
    each_imp er fun _ _ _ ⟨as, r⟩ => ⟨as, PyProof.Rows.Reads.keeps (fun _ _ => PySem.W.sorting_copy_old) r⟩
  have em := PySem.W.each_map (R := fun v d => ∃ as, Reads (PySem.W.sortingHeap (PySem.W.copyHeap s.heap vs) (s.heap.objs.size + 1) vs) v d as) enc er2
  refine PySem.W.sorted_vals (κ := PySem.W.dataKind (PySem.W.sortingHeap (PySem.W.copyHeap s.heap vs) (s.heap.objs.size + 1) vs) (bs.map enc)) hl ?_ (by rw [e.length]; exact hL)
    (h _ (by rw [PySem.W.sortVals_length false rfl]; exact e.length) (PySem.W.sortVals_data false e er2 al))
  have room := PySem.W.bound_map (A := A.in1.in1) hu
  rcases hk with hk | ⟨h1, hn⟩
  · exact PySem.W.SortsAt.data (s := { s with heap := PySem.W.sortingHeap (PySem.W.copyHeap s.heap vs) (s.heap.objs.size + 1) vs }) em al hk room
  · exact sortsAt_few (s := { s with heap := PySem.W.sortingHeap (PySem.W.copyHeap s.heap vs) (s.heap.objs.size + 1) vs }) em al hn room (by rw [e.length]; exact h1)
section
variable {X : Cx}
theorem sorted_ok (hu : X.A.units + 65 < cLine) : CallR X (.builtin "sorted") (rB1F X.K .sorted) := by
  intro pins s σ H xs us Q I r h
  obtain ⟨Z, x, p, ds, rfl, hp, e, c⟩ := h
  obtain ⟨u, rfl, rx⟩ := vals1 r
  cases p with
  | lst es =>
    simp only [b1] at e
    unfold sortD at e
    split at e
    · rename_i hh
      simp only [Bool.and_eq_true] at hh
      obtain ⟨⟨⟨hl, hs⟩, ha⟩, hf⟩ := hh
      simp only [Option.map_some, Option.some.injEq, D.lst.injEq] at e
      subst e
      have al := alikeEach_ok ha
      obtain ⟨a, vs, rfl, rd, rl⟩ := hp.lst
      cases rx
      obtain ⟨its, rv, pl, hz⟩ := I.list (.inl rd)
      have ev := each_of rl rv
      have hread : PySem.W.EachIs (fun v b => ∃ as, Reads s.heap v (D.py b) as) its es := each_imp ev fun a b hb ⟨v, r1, q1⟩ => Dp.reads I _ v a (Rp.dp b 60 v (fitL_mem hf hb) q1) r1
      have hlen := rl.length
      refine sorted_of (enc := D.py) pl.isList ev hread (fun d hd d' hd' => ?_) ?_ (lenOk_le hl) (fun b hb => ?_) fun out ho eo => ?_
      · obtain ⟨b, hb, rfl⟩ := List.mem_map.mp hd
        obtain ⟨b', hb', rfl⟩ := List.mem_map.mp hd'
        exact alike_py b b' (al b hb b' hb')
      · unfold sortable at hs
        rw [Bool.or_eq_true, Bool.or_eq_true, Bool.and_eq_true] at hs
        rcases hs with (hs | hs) | ⟨h1, hs⟩
        · refine .inl (.inl fun d hd => ?_)
          obtain ⟨b, hb, rfl⟩ := List.mem_map.mp hd
          have := List.all_eq_true.mp hs b hb
          cases b with
          | tup l =>
            cases l with
            | nil => simp [isTupNE] at this
            | cons y l => exact ⟨y.py, D.pyL l, by simp only [D.py, D.pyL]⟩
          | _ => simp [isTupNE] at this
        · refine .inl (.inr fun d hd => ?_)
          obtain ⟨b, hb, rfl⟩ := List.mem_map.mp hd
          have := List.all_eq_true.mp hs b hb
          cases b <;> simp [isTup, isNon] at this <;> simp [D.py]
        · refine .inr ⟨Nat.ble_eq.mp h1, fun d hd => ?_⟩
          obtain ⟨b, hb, rfl⟩ := List.mem_map.mp hd
          have := List.all_eq_true.mp hs b hb
          cases b <;> simp [isNon] at this <;> simp [D.py]
      · have := (fit_lay b 60 (fitL_mem hf hb)).2
        omega
      · rw [← isort_merge es al] at eo
        obtain ⟨ws, q1, q2⟩ := of_each eo
        obtain ⟨n, hn⟩ := PyProof.Rows.sortedAll_at s.heap its out.toArray
        have hw := q1.length
        rw [isort_length] at hw
        have hsz : ws.length ≤ sizeLine := by rw [hw]; exact lenOk_le hl
        have hfresh : H (s.heap.objs.size + 1) = none := I.hok.fresh (Nat.le_succ _)
        exact ⟨.ref _, _, I.laid (t' := s.toks) (a := s.heap.objs.size + 1) (o := .lst ws) (fun b o q => PyProof.Rows.sortedAll_old q) (Nat.le_succ _) ⟨hsz, out, n, q2, hn⟩, rfl, c _ ws hfresh q1⟩
    · cases e
  | _ => simp [b1] at e
end
end Cv
end

section
/-! CvH: built-in functions and methods by values. -/
set_option autoImplicit false
set_option linter.all false
set_option maxRecDepth 100000
namespace Cv
open PySem PySem.Spec L2

section
variable {X : Cx}
theorem list_ok : CallR X (.type "list") (rB1F X.K .list) := by
  intro pins s σ H xs us Q I r h
  obtain ⟨Z, x, p, ds, rfl, hp, e, c⟩ := h
  cases p with
  | lst es =>
    simp only [b1, Option.some.injEq, D.lst.injEq] at e
    subst e
    obtain ⟨a, vs, rfl, rd, rl⟩ := hp.lst
    exact call_list_of pins s σ H _ us Q I r ⟨a, vs, rfl, .inl (.inl rd), fun l hl => c l vs hl rl⟩
  | tup es =>
    simp only [b1, Option.some.injEq, D.lst.injEq] at e
    subst e
    obtain ⟨a, vs, rfl, f, rl⟩ := hp.tup
    exact call_list_of pins s σ H _ us Q I r ⟨a, vs, rfl, .inr f.sq, fun l hl => c l vs hl rl⟩
  | _ => simp [b1] at e
/-- a new list, let go -/
theorem rB1_of {f : Value} {g : B1} (h : CallR X f (rB1F X.K g)) (hl : ∀ p d, b1 g p = some d → ∃ ds, d = .lst ds) : CallR X f (rB1 X.K g) := by
  intro pins s σ H xs us Q I r ⟨Z, x, p, d, e0, zt, hp, e, c⟩
  obtain ⟨ds, rfl⟩ := hl p d e
  exact h pins s σ H xs us Q I r ⟨Z, x, p, ds, e0, hp, e, fun q us hq hr => c _ _ (same_upd hq) (rp_lst hq (nz_of zt hq) hr)⟩
theorem sortD_lst {p d : D} (h : b1 .sorted p = some d) : ∃ ds, d = .lst ds := by
  cases p <;> simp [b1] at h
  obtain ⟨a, _, rfl⟩ := h
  exact ⟨a, rfl⟩
theorem listD_lst {p d : D} (h : b1 .list p = some d) : ∃ ds, d = .lst ds := by
  cases p <;> simp [b1] at h <;> exact ⟨_, h.symm⟩

theorem b1_ok (hc : X.calm = true) (hu : X.A.units + 65 < cLine) (f : B1) (h1 : f ≠ .str) (h2 : f ≠ .dict) : CallR X (fnOf f) (rB1 X.K f) := by
  cases f with
  | str => exact absurd rfl h1
  | dict => exact absurd rfl h2
  | list => exact rB1_of list_ok fun p d h => listD_lst h
  | sorted => exact rB1_of (sorted_ok hu) fun p d h => sortD_lst h
  | abs =>
    intro pins s σ H xs us Q I r ⟨Z, x, p, d, e0, zt, hp, e, c⟩
    cases p <;> simp only [b1] at e <;> first | cases e | skip
    cases hp.int
    exact call_abs pins s σ H _ us Q I r ⟨_, e0, c _ _ (Same.refl _) rp_int⟩
  | int =>
    intro pins s σ H xs us Q I r ⟨Z, x, p, d, e0, zt, hp, e, c⟩
    cases p <;> simp only [b1] at e <;> first | cases e | skip
    · cases hp.bl
      exact call_int1 pins s σ H _ us Q I r (.inr ⟨_, e0, c _ _ (Same.refl _) rp_int⟩)
    · cases hp.int
      exact call_int1 pins s σ H _ us Q I r (.inl ⟨_, e0, c _ _ (Same.refl _) rp_int⟩)
  | bool =>
    intro pins s σ H xs us Q I r ⟨Z, x, p, d, e0, zt, hp, e, c⟩
    cases p <;> simp only [b1] at e <;> first | cases e | skip
    · cases hp.bl
      exact call_bool1 pins s σ H _ us Q I r (.inr ⟨_, e0, c _ _ (Same.refl _) rp_bl⟩)
    · cases hp.int
      exact call_bool1 pins s σ H _ us Q I r (.inl ⟨_, e0, c _ _ (Same.refl _) rp_bl⟩)
  | len =>
    intro pins s σ H xs us Q I r ⟨Z, x, p, d, e0, zt, hp, e, c⟩
    subst e0
    cases p with
    | lst ds =>
      simp only [b1, Option.some.injEq] at e
      subst e
      obtain ⟨a, vs, rfl, rd, rl⟩ := hp.lst
      exact call_len pins s σ H _ us Q I r ⟨_, vs.length, rfl, .inl ⟨vs, .inl rd, rfl⟩, c _ _ (Same.refl _) (by rw [rl.length]; exact rp_int)⟩
    | tup ds =>
      simp only [b1, Option.some.injEq] at e
      subst e
      obtain ⟨a, vs, rfl, rd, rl⟩ := hp.tup
      exact call_len pins s σ H _ us Q I r ⟨_, vs.length, rfl, .inr ⟨vs, rd.sq, rfl⟩, c _ _ (Same.refl _) (by rw [rl.length]; exact rp_int)⟩
    | str cs =>
      simp only [b1] at e
      split at e
      · rename_i hl
        cases e
        cases hp.str
        exact call_len pins s σ H _ us Q I r ⟨_, cs.length, rfl, ⟨by have := lenOk_le hl; simpa [Str.length] using this, by simp [Str.length]⟩, c _ _ (Same.refl _) rp_int⟩
      · cases e
    | dic ks ws =>
      simp only [b1, Option.some.injEq] at e
      subst e
      obtain ⟨a, kvs, rfl, rd, rfl, _⟩ := hp.dic
      obtain ⟨u, rfl, rx⟩ := vals1 r
      cases rx
      exact d_len I rd fun t s' I' => ⟨.int kvs.length, H, I', ⟨t, rfl⟩, c _ _ (Same.refl _) (by rw [List.length_map]; exact rp_int)⟩
    | _ => simp [b1] at e
  | sum =>
    intro pins s σ H xs us Q I r ⟨Z, x, p, d, e0, zt, hp, e, c⟩
    cases p <;> simp only [b1] at e <;> first | cases e | skip
    rename_i ds
    cases q : intsOf ds with
    | none => rw [q] at e; cases e
    | some ns =>
      rw [q] at e
      cases e
      obtain ⟨a, vs, rfl, rd, rl⟩ := hp.lst
      have := rl.ints q
      subst this
      exact cr_sum hc pins s σ H _ us Q I r ⟨a, ns, e0, .inl rd, c _ _ (Same.refl _) rp_int⟩
  | any =>
    intro pins s σ H xs us Q I r ⟨Z, x, p, d, e0, zt, hp, e, c⟩
    cases p <;> simp only [b1] at e <;> first | cases e | skip
    rename_i ds
    cases q : boolsOf ds with
    | none => rw [q] at e; cases e
    | some ns =>
      rw [q] at e
      cases e
      obtain ⟨a, vs, rfl, rd, rl⟩ := hp.lst
      have := rl.bools q
      subst this
      exact cr_any hc pins s σ H _ us Q I r ⟨a, ns, e0, .inl rd, c _ _ (Same.refl _) rp_bl⟩
  | all =>
    intro pins s σ H xs us Q I r ⟨Z, x, p, d, e0, zt, hp, e, c⟩
    cases p <;> simp only [b1] at e <;> first | cases e | skip
    rename_i ds
    cases q : boolsOf ds with
    | none => rw [q] at e; cases e
    | some ns =>
      rw [q] at e
      cases e
      obtain ⟨a, vs, rfl, rd, rl⟩ := hp.lst
      have := rl.bools q
      subst this
      exact cr_all hc pins s σ H _ us Q I r ⟨a, ns, e0, .inl rd, c _ _ (Same.refl _) rp_bl⟩
  | min =>
    intro pins s σ H xs us Q I r ⟨Z, x, p, d, e0, zt, hp, e, c⟩
    cases p <;> simp only [b1] at e <;> first | cases e | skip
    rename_i ds
    cases q : intsOf ds with
    | none => rw [q] at e; cases e
    | some ns =>
      rw [q] at e
      cases ns with
      | nil => cases e
      | cons m t =>
        cases e
        obtain ⟨a, vs, rfl, rd, rl⟩ := hp.lst
        have := rl.ints q
        subst this
        obtain ⟨k1, k2, k3⟩ := minI_ok t m
        refine cr_min hc pins s σ H _ us Q I r ⟨a, m :: t, e0, .inl rd, by simp, fun n hn hl => ?_⟩
        have : n = minI m t := by
          have g1 : minI m t ≤ n := by
            rcases List.mem_cons.mp hn with rfl | hn
            · exact k2
            · exact k3 n hn
          have g2 : n ≤ minI m t := hl _ (k1.elim (fun k1 => by rw [k1]; exact List.mem_cons_self) fun k1 => List.mem_cons_of_mem _ k1)
          omega
        subst this
        exact c _ _ (Same.refl _) rp_int
  | max =>
    intro pins s σ H xs us Q I r ⟨Z, x, p, d, e0, zt, hp, e, c⟩
    cases p <;> simp only [b1] at e <;> first | cases e | skip
    rename_i ds
    cases q : intsOf ds with
    | none => rw [q] at e; cases e
    | some ns =>
      rw [q] at e
      cases ns with
      | nil => cases e
      | cons m t =>
        cases e
        obtain ⟨a, vs, rfl, rd, rl⟩ := hp.lst
        have := rl.ints q
        subst this
        obtain ⟨k1, k2, k3⟩ := maxI_ok t m
        refine cr_max hc pins s σ H _ us Q I r ⟨a, m :: t, e0, .inl rd, by simp, fun n hn hl => ?_⟩
        have : n = maxI m t := by
          have g1 : n ≤ maxI m t := by
            rcases List.mem_cons.mp hn with rfl | hn
            · exact k2
            · exact k3 n hn
          have g2 : maxI m t ≤ n := hl _ (k1.elim (fun k1 => by rw [k1]; exact List.mem_cons_self) fun k1 => List.mem_cons_of_mem _ k1)
          omega
        subst this
        exact c _ _ (Same.refl _) rp_int
  | tuple =>
    intro pins s σ H xs us Q I r ⟨Z, x, p, d, e0, zt, hp, e, c⟩
    cases p <;> simp only [b1] at e <;> first | cases e | skip
    · obtain ⟨a, vs, rfl, f, rl⟩ := hp.tup
      refine call_tupleF pins s σ H _ us Q I r ⟨a, vs, e0, .inr ⟨f.sq, c _ _ (Same.refl _) ?_⟩⟩
      simp only [Rp]
      exact ⟨a, vs, rfl, f, rl⟩
    · obtain ⟨a, vs, rfl, rd, rl⟩ := hp.lst
      exact call_tupleF pins s σ H _ us Q I r ⟨a, vs, e0, .inl ⟨.inl rd, fun l o hl po => c _ _ (same_upd hl) (rp_tup hl (nz_of zt hl) rl po)⟩⟩

/-! ### the place of an item -/
theorem findIx_ok (x : D) : ∀ {ys : List D} {j : Nat}, findIx x ys = some j → (∃ z, ys[j]? = some z ∧ D.eqv z x = true) ∧ ∀ m z, m < j → ys[m]? = some z → D.eqv z x = false
  | [], j, h => by simp [findIx] at h
  | y :: r, j, h => by
    unfold findIx at h
    split at h
    · rename_i q
      cases h
      exact ⟨⟨y, rfl, q⟩, fun m z hm => by omega⟩
    · rename_i q
      cases e : findIx x r with
      | none => rw [e] at h; cases h
      | some i =>
        rw [e] at h
        simp only [Option.map_some, Option.some.injEq] at h
        subst h
        obtain ⟨⟨z, h1, h2⟩, h3⟩ := findIx_ok x e
        refine ⟨⟨z, by simpa using h1, h2⟩, fun m z hm hz => ?_⟩
        cases m with
        | zero => simp at hz; subst hz; simpa using q
        | succ m => exact h3 m z (by omega) (by simpa using hz)
def rIndexA (K : PySem.W.Frag) : V → List V → Hp → VK → Prop := fun x xs H Q => ∃ (Z : Addr → Prop) (y : V) (p k : D) (ys : List D) (j : Nat), xs = [y] ∧ Rb K H Z p x ∧ Rb K H Z k y ∧ seqOf p = some ys ∧ D.fit k 60 = true ∧ D.fitL ys 60 = true ∧ lenOk ys.length = true ∧ findIx k ys = some j ∧ Q (.int j) H
theorem pyL_get {ys : List D} {m : Nat} {z : PyData} (h : (D.pyL ys)[m]? = some z) : ∃ w, ys[m]? = some w ∧ z = w.py := by
  rw [pyL_map, List.getElem?_map] at h
  cases e : ys[m]? with
  | none => rw [e] at h; cases h
  | some w => rw [e] at h; cases h; exact ⟨w, rfl, rfl⟩
theorem index_list (hu : X.A.units + 65 < cLine) : MtR X "list.index" (fun x xs H Q => (∃ a, x = .ref a ∧ ∃ vs, SqL X.K H a vs) ∧ rIndexA X.K x xs H Q) := by
  intro pins s σ H x xs v us Q I rx rs ⟨⟨a0, ea0, vs0, hv0⟩, Z, y, p, k, ys, j, exs, hp, hk, ep, f1, f2, hl, hj, c⟩
  obtain ⟨⟨z, z1, z2⟩, z3⟩ := findIx_ok k hj
  cases p with
  | lst ds =>
    simp only [seqOf, Option.some.injEq] at ep
    subst ep
    obtain ⟨a, vs, rfl, rd, rl⟩ := hp.lst
    refine mt_indexD hu pins s σ H _ xs v us Q I rx rs ⟨a, y, k.py, D.pyL ds, j, z.py, rfl, exs, .lst (.inl rd) (RpL.dp ds 60 vs f2 rl), hk.dp f1, ?_, fit_shaped f1 (by decide), ?_, ?_, fun m z' hm hz' => ?_, c⟩
    · have := fit_shaped (a := .lst ds) (n := 61) (by simp only [D.fit]; exact f2) (by decide)
      simpa only [D.py] using this
    · rw [pyL_map, List.getElem?_map, z1]; rfl
    · rw [eqv_py z k rfl]; exact z2
    · obtain ⟨w, w1, rfl⟩ := pyL_get hz'
      rw [eqv_py w k rfl]
      exact z3 m w hm w1
  | tup ds =>
    exfalso
    obtain ⟨a, vs, rfl, f, rl⟩ := hp.tup
    cases ea0
    obtain ⟨its, _, ⟨o, n, e1, e2, _, _⟩, _⟩ := I.list hv0
    obtain ⟨its', _, ⟨o', e1', e2', _⟩, _⟩ := I.tuple f.sq
    rw [e1] at e1'
    cases e1'
    rw [e2] at e2'
    injection e2' with q
    exact absurd q (by decide)
  | _ => simp [seqOf] at ep
theorem index_tup (hu : X.A.units + 65 < cLine) : MtR X "tuple.index" (fun x xs H Q => (∃ a, x = .ref a ∧ ∃ vs, SqT X.K H a vs) ∧ rIndexA X.K x xs H Q) := by
  intro pins s σ H x xs v us Q I rx rs ⟨⟨a0, ea0, vs0, hv0⟩, Z, y, p, k, ys, j, exs, hp, hk, ep, f1, f2, hl, hj, c⟩
  obtain ⟨⟨z, z1, z2⟩, z3⟩ := findIx_ok k hj
  subst exs
  cases p with
  | tup ds =>
    simp only [seqOf, Option.some.injEq] at ep
    subst ep
    obtain ⟨a, vs, rfl, f, rl⟩ := hp.tup
    cases rx
    obtain ⟨u, rfl, ry⟩ := vals1 rs
    obtain ⟨bs, r1⟩ := Dp.reads I _ y u (hk.dp f1) ry
    obtain ⟨its, rv, ⟨⟨cls, dd, dt, sl⟩, ho, hcl, n, hd⟩, hz⟩ := I.tuple f.sq
    simp only at hcl hd
    subst hcl hd
    obtain ⟨as, h4⟩ := Dp.readsAll I (D.pyL ds) _ its (RpL.dp ds 60 vs f2 rl) rv
    have hxs : PyData.canLayAll0 (D.pyL ds) = true := (fitL_lay ds 60 f2).1
    have hroom : X.A.units + 1 + min (PyData.depthAll (D.pyL ds)) k.py.depth < cLine := PyProof.Rows.room_in_shaped (fit_shaped f1 (by decide)) hu
    have hmap : its.map (SeqAt.readOf s.heap) = D.pyL ds := SeqAt.readsAll_map (D.pyL ds) its as hxs h4
    have hlen : its.length = ds.length := by rw [← rv.length, rl.length]
    have look : ∀ (m : Nat) (hm : m < its.toArray.size), ∃ w, ds[m]? = some w ∧ SeqAt.readOf s.heap its.toArray[m] = w.py := fun m hm => by
      have hm' : m < its.length := by simpa using hm
      have e1 : (D.pyL ds)[m]? = some (SeqAt.readOf s.heap its[m]) := by rw [← hmap, List.getElem?_map, List.getElem?_eq_getElem hm']; rfl
      obtain ⟨w, w1, w2⟩ := pyL_get e1
      exact ⟨w, w1, by simpa using w2⟩
    have hjl : j < its.toArray.size := by
      have := (List.getElem?_eq_some_iff.mp z1).1
      simp only [List.size_toArray]
      omega
    refine call_meets PySem.F.slot_tuple_index ⟨_, ho, rfl⟩ PySem.F.entry_tuple_index (PySem.F.args_tuple_index_2 _ _)
      (TI.tuple_indexAt a its.toArray n dd sl u (fun w => PyData.eqv (SeqAt.readOf s.heap w) k.py) j hjl ?_ ?_) ⟨ho, SeqAt.items_eqAt (vs := its.toArray) (show ReadsAll s.heap its.toArray.toList (D.pyL ds) as from h4) r1 hxs (SeqAt.canLay_of_shaped (fit_shaped f1 (by decide))) hroom, ⟨.int (j : Nat), H, I.tok _, ⟨_, rfl⟩, c⟩⟩
    · obtain ⟨w, w1, w2⟩ := look j hjl
      rw [z1] at w1
      cases w1
      show PyData.eqv (SeqAt.readOf s.heap its.toArray[j]) k.py = true
      rw [w2, eqv_py z k rfl]
      exact z2
    · intro m hm hmj
      obtain ⟨w, w1, w2⟩ := look m hm
      show PyData.eqv (SeqAt.readOf s.heap its.toArray[m]) k.py = false
      rw [w2, eqv_py w k rfl]
      exact z3 m w hmj w1
  | lst ds =>
    exfalso
    obtain ⟨a, vs, rfl, f, rl⟩ := hp.lst
    cases ea0
    obtain ⟨its, _, ⟨o, n, e1, e2, _, _⟩, _⟩ := I.list (.inl f)
    obtain ⟨its', _, ⟨o', e1', e2', _⟩, _⟩ := I.tuple hv0
    rw [e1] at e1'
    cases e1'
    rw [e2] at e2'
    injection e2' with q
    exact absurd q (by decide)
  | _ => simp [seqOf] at ep
end
end Cv
end

section
/-! CvI: x[::-1]; tuple(reversed(x)). -/
set_option autoImplicit false
set_option linter.all false
set_option maxRecDepth 100000
namespace Cv
open PySem PySem.Spec L2

theorem range_rev (n : Nat) : (List.range n).map (fun k => n - 1 - k) = (List.range n).reverse := PySem.W.krv_range n
theorem fm_congr {α β : Type} {f g : α → Option β} : ∀ {l : List α}, (∀ a ∈ l, f a = g a) → l.filterMap f = l.filterMap g
  | [], _ => rfl
  | a :: l, h => by
    rw [List.filterMap_cons, List.filterMap_cons, h a List.mem_cons_self, fm_congr fun b hb => h b (List.mem_cons_of_mem _ hb)]
theorem pick_rev (xs : Array Value) : ((List.range xs.size).filterMap fun (m : Nat) => xs[(((xs.size : Int) - 1) + (m : Int) * (-1)).toNat]?).toArray = xs.toList.reverse.toArray := by
  have e : ((List.range xs.size).filterMap fun (m : Nat) => xs[(((xs.size : Int) - 1) + (m : Int) * (-1)).toNat]?) = ((List.range xs.size).map fun k => xs.size - 1 - k).filterMap (xs[·]?) := by
    rw [List.filterMap_map]
    refine fm_congr fun m hm => ?_
    have hm := List.mem_range.mp hm
    have e : (((xs.size : Int) - 1) + (m : Int) * (-1)).toNat = xs.size - 1 - m := by omega
    rw [e]
    rfl
  rw [e, range_rev, List.filterMap_reverse, PySem.W.krv_all]
theorem places_rev (n : Nat) : Builtin.Slice.slicePlaces ((n : Int) - 1) (-1) (-1) = n := by
  unfold Builtin.Slice.slicePlaces
  rw [if_neg (show ¬ ((-1 : Int) > 0) by decide)]
  by_cases h : (n : Int) - 1 > -1
  · rw [if_pos h, show (-(-1) : Int) = 1 by decide, Int.ediv_one]
    omega
  · rw [if_neg h]
    have : n = 0 := by omega
    subst this
    rfl
theorem getItem_tuple_rev {prog : Program} {w : World} {A : Around} {E : Value → Shared → Prop} {s : Shared} {t sl : Addr} {items : Array Value} {u : Tok} {Q : Value → Shared → Prop} (ht : PyProof.Rows.IsTup s.heap t items) (hs : s.heap.IsSliceOf sl .none .none (.int (-1) u))
    (h : Q (.ref s.heap.objs.size) { s with heap := s.heap.push { cls := .type "tuple", data := .seq items.toList.reverse.toArray } }) (hsz : items.size ≤ sizeLine) : wpAny (model prog w) A (getItem (.ref t) (.ref sl)) Q E s := by
  have hfit : sizeOk (.seq items.toList.reverse.toArray) := by
    show items.toList.reverse.toArray.size ≤ sizeLine
    rw [List.size_toArray, List.length_reverse, Array.length_toList]
    exact hsz
  obtain ⟨os, hos, hcs, hds⟩ := id hs
  have hTs : s.TypeIs (.ref sl) "slice" := ⟨os, hos, hcs⟩
  unfold getItem
  try with_reducible refine wpAny_holding ?_
  first | refine wpAny_bind (wpAny_pure ?_) | skip
  refine wpAny_bind (wpAny_sequenceKey ht.typeIs (by decide) ?_)
  refine wpAny_bind (wpAny_callSpecial?_slot (name := Str.ofString "__getitem__") ht.typeIs PyProof.Rows.slot_tuple_getitem
    (wpAny_call_entry PyProof.Rows.slot_tuple_getitem ht.typeIs PyProof.Rows.entry_tuple_getitem ?_ (PyProof.Rows.args_tuple_getitem _ _)))
  change wpAny _ _ (Builtin.Tuple.tupleItemsOf (.ref t) >>= _) _ _ s
  refine wpAny_bind (PyProof.Rows.tupleItemsOf_ ht ?_)
  refine wpAny_bind (wpAny_typeOf hTs ?_)
  rw [if_pos (by decide)]
  have cut : ∀ (A : Around) (E : Value → Shared → Prop), wpAny (model prog w) A (Builtin.Slice.sliceApplied (.ref sl) (pure (items.size : Int))) (fun r s' => r = ((items.size : Int) - 1, -1, items.size) ∧ s' = s) E s := by
    intro A E
    unfold Builtin.Slice.sliceApplied Builtin.Slice.sliceFields
    refine wpAny_bind (wpAny_bind (wpAny_field hos hds (x := .none) rfl (wpAny_bind (wpAny_field hos hds (x := .none) rfl (wpAny_bind (wpAny_field hos hds (x := .int (-1) u) rfl (wpAny_pure ?_)))))))
    refine wpAny_bind (HT.slicePart_ (.int (-1) u) ?_)
    rw [if_neg (by decide)]
    refine wpAny_bind (HT.slicePart_ .none (wpAny_bind (HT.slicePart_ .none (wpAny_bind (wpAny_pure ?_)))))
    exact wpAny_pure ⟨congrArg (fun q => (((items.size : Int) - 1, -1, q) : Int × Int × Nat)) (places_rev items.size), rfl⟩
  refine wpAny_bind (thn (cut _ _) fun r s' hr => ?_)
  obtain ⟨e1, e2⟩ := hr
  subst e1 e2
  have hno : ¬ ((((items.size : Int) - 1) == 0 && (-1 : Int) == 1 && items.size == items.size) = true) := by simp
  show wpAny _ _ (if ((((items.size : Int) - 1) == 0 && (-1 : Int) == 1 && items.size == items.size) = true) then _ else _) _ _ _
  rw [if_neg hno, pick_rev]
  first
    | exact wpAny_bind (m := Builtin.Tuple.tupleExact _) (wpAny_newObj_type (wpAny_pure ⟨_, rfl, wpAny_pure h⟩) hfit)
    | exact wpAny_bind (m := Builtin.Tuple.tupleExact _) (wpAny_newObj_type (wpAny_bind (wpAny_pure (wpAny_pure ⟨_, rfl, wpAny_pure h⟩))) hfit)
    | exact wpAny_bind (wpAny_bind (m := Builtin.Tuple.tupleExact _) (wpAny_newObj_type (wpAny_pure (wpAny_pure ⟨_, rfl, wpAny_pure h⟩)) hfit))
    | exact wpAny_bind (wpAny_bind (m := Builtin.Tuple.tupleExact _) (wpAny_newObj_type (wpAny_pure ⟨_, rfl, wpAny_pure h⟩) hfit))

def rRev (K : PySem.W.Frag) : V → Hp → VK → Prop := fun x H Q => ∃ (Z : Addr → Prop) (p d : D), (∀ a, Z a → H a ≠ none) ∧ Rb K H Z p x ∧ revD p = some d ∧ ∀ w H', Same H H' → Rp K H' Z d w → Q w H'
theorem str_rev (cs : List Nat) : ((Builtin.Str.strSliceIndices none none (-1) cs.length).filterMap (cs.toArray[·]?)) = cs.reverse := by
  have e : Builtin.Str.strSliceIndices none none (-1) cs.length = sliceRange ((cs.length : Int) - 1) (-1) (-1) := rfl
  rw [e, PySem.W.krv_sliceRange, PySem.W.krv_range, List.filterMap_reverse]
  have := PySem.W.krv_all cs.toArray
  rw [List.size_toArray] at this
  rw [this]
section
variable {X : Cx} {e : Expr} {te : TE} {k : Nat} {p1 p2 p3 pos : Pos}
theorem pe_revA (he : PE X e te) : PE X (.Subscript e (.Slice none none (some (.UnaryOp .USub (.Constant (.int 1) k p1) p2)) p3) pos) (tUn (rRev X.K) te) := by
  refine ⟨fun pins s σ H Q I h => ?_⟩
  refine PyProof.Rows.Subscript_ (thn (he.run pins s σ H _ I h) fun v s1 hv => ?_)
  obtain ⟨x, H1, I1, r1, Z, p, d, zt, hp, ed, c⟩ := hv
  have one : PO X (some (.UnaryOp .USub (.Constant (.int 1) k p1) p2)) (tPart (tUn (rU fun i => .int (-i)) (tC (.int 1)))) := po_some (pe_un un_neg pe_int)
  refine wpAny_Slice (thn (po_none.run pins s1 σ H1 (fun o H2 => o = none ∧ H2 = H1) I1 ⟨rfl, rfl⟩) fun vl s2 h2 => ?_)
  obtain ⟨l, H2, I2, pl, el, e2⟩ := h2
  subst el e2
  refine thn (po_none.run pins s2 σ H2 (fun o H3 => o = none ∧ H3 = H2) I2 ⟨rfl, rfl⟩) fun vu s3 h3 => ?_
  obtain ⟨u, H3, I3, pu, eu, e3⟩ := h3
  subst eu e3
  refine thn (one.run pins s3 σ H3 (fun o H4 => o = some (-1) ∧ H4 = H3) I3 ⟨1, rfl, -1, rfl, rfl, rfl⟩) fun vs s4 h4 => ?_
  obtain ⟨o, H4, I4, ps, eo, e4⟩ := h4
  subst eo e4
  have I5 : Inv X pins σ H4 { s4 with heap := s4.heap.push { cls := .type "slice", data := .fields #[vl, vu, vs] } } := I4.kept (t' := s4.toks) fun b ob q => Heap.get?_push_of_some _ q
  cases pl
  cases pu
  obtain ⟨t, rfl⟩ : ∃ t, vs = .int (-1) t := by cases ps; exact ⟨_, rfl⟩
  change wpAny (model X.prog X.w) X.A (PyProof.Rows.subscriptTail e (.Slice none none (some (.UnaryOp .USub (.Constant (.int 1) k p1) p2)) p3) v (.ref s4.heap.objs.size)) (EP X pins σ Q) X.xe _
  cases p with
  | lst ds =>
    simp only [revD, Option.some.injEq] at ed
    subst ed
    obtain ⟨a, vs, rfl, rd, rl⟩ := hp.lst
    cases r1
    obtain ⟨its, r, ht, hz⟩ := I5.list (.inl rd)
    have hl := r.length
    refine PyProof.Rows.tail_any (ops := [.ref a, .ref s4.heap.objs.size]) ht.isList.typeIs (PySem.slot_list_getitem.lookup) ?_ (by with_unfolding_all rfl)
    refine wpAny_getItem_list_slice ht.isList (Heap.IsSliceOf.new _ _ _ _) .none .none (.int (-1) t) (by decide) ?_ (by rw [List.size_toArray]; omega)
    rw [PySem.W.krv_pick]
    have fr : H4 (s4.heap.push { cls := .type "slice", data := .fields #[.none, .none, .int (-1) t] }).objs.size = none := I5.hok.fresh (Nat.le_refl _)
    exact ⟨.ref _, _, I5.laid (t' := s4.toks) (o := .lst vs.reverse) (fun b ob q => Heap.get?_push_of_some _ q) (Nat.le_refl _) ⟨by rw [List.length_reverse]; exact hz, _, 0, r.reverse, Heap.get?_push_size _ rfl⟩, rfl, c _ _ (same_upd fr) (rp_lst fr (nz_of zt fr) rl.reverse)⟩
  | tup ds =>
    simp only [revD, Option.some.injEq] at ed
    subst ed
    obtain ⟨a, vs, rfl, f, rl⟩ := hp.tup
    cases r1
    obtain ⟨its, r, ht, hz⟩ := I5.tuple f.sq
    have hl := r.length
    refine PyProof.Rows.tail_any (ops := [.ref a, .ref s4.heap.objs.size]) ht.typeIs (PyProof.Rows.slot_tuple_getitem.lookup) ?_ (by with_unfolding_all rfl)
    refine getItem_tuple_rev ht (Heap.IsSliceOf.new _ _ _ _) ?_ (by rw [List.size_toArray]; omega)
    exact tpush (t' := s4.toks) I5 r.reverse (by rw [List.length_reverse]; exact hz) fun p o hp po => c _ _ (same_upd hp) (rp_tup hp (nz_of zt hp) rl.reverse po)
  | str cs =>
    simp only [revD] at ed
    split at ed
    · rename_i hl
      cases ed
      cases hp.str
      obtain ⟨tk, rfl⟩ := r1
      refine PyProof.Rows.tail_any (ops := [.str ⟨cs.toArray⟩ tk, .ref s4.heap.objs.size]) (T := "str") (typeIs_str _ _ _) (F.slot_str_getitem.lookup) ?_ (by with_unfolding_all rfl)
      refine wpAny_getItem_str_slice (l := none) (u := none) (st := some (-1, t)) ⟨_, Heap.get?_push_size _ rfl, rfl, rfl⟩ (by rfl) ?_
      have em : sliceMade ⟨cs.toArray⟩ tk none none (some (-1, t)) = Made.str ⟨cs.reverse.toArray⟩ := by
        unfold sliceMade
        rw [if_neg (by simp)]
        unfold slicePicked
        have := str_rev cs
        exact congrArg (fun q => Made.str ⟨List.toArray q⟩) (by simpa [Str.length] using this)
      rw [em]
      refine ⟨?_, .str ⟨cs.reverse.toArray⟩, H4, I5.tok _, ⟨_, rfl⟩, c _ _ (Same.refl _) rp_str⟩
      have := lenOk_le hl
      simpa [Str.length] using this
    · cases ed
  | _ => simp [revD] at ed
end
end Cv
end

section
/-! CvJ: what the text looks like; single rules of the core language. -/
set_option autoImplicit false
set_option linter.all false
set_option maxRecDepth 100000
namespace Cv
open PySem PySem.Spec L2

/-! ### the text -/
theorem star_cons {e : Expr} {es : List Expr} {env : PySem.Env} (h : noStar e = true) : starEach (e :: es) env = (false, eval e env) :: starEach es env := by
  cases e <;> first | rfl | (simp [noStar] at h)
theorem star_any {pos : Pos} {env : PySem.Env} : ∀ {es : List Expr}, (∀ e ∈ es, noStar e = true) → (backTo pos (starEach es env)).any (·.1) = false
  | [], _ => rfl
  | e :: es, h => by
    rw [star_cons (h e List.mem_cons_self)]
    show (false || (backTo pos (starEach es env)).any (·.1)) = false
    rw [star_any fun x hx => h x (List.mem_cons_of_mem _ hx)]
    rfl
theorem few1 {cpos : Pos} {env : PySem.Env} {e : Expr} (h : noStar e = true) : ((backTo cpos (starEach [e] env)).all (fun x => !x.1) && (backToKw cpos (keywordEach [] env)).all (fun x => x.1.isSome)
      && decide (([e] : List Expr).length + ([] : List Keyword).length + (if ([] : List Keyword).isEmpty then 0 else 1) < 30)) = true := by
  rw [star_cons h]
  rfl
theorem base_ok {o : Expr} {m : Str} {env : PySem.Env} (h : noCall0 o = true) : attributeBase o m env (eval o env) = eval o env := by
  cases o <;> try rfl
  rename_i f args kws pos
  cases args with
  | nil =>
    cases kws with
    | nil => simp [noCall0] at h
    | cons _ _ => cases f <;> rfl
  | cons _ _ => cases f <;> rfl
theorem folded_ok {e : Expr} {env : PySem.Env} (h : noSet e = true) (x : Value) : foldedSetIterable e env x = pure x := by
  cases e <;> first | rfl | (simp [noSet] at h)
theorem marks_ok {op : CmpOp} {b : Expr} (h : noSet b = true) : behindInMarks op b = false := by
  cases b <;> first | rfl | (simp [noSet] at h)
theorem swaps_ok {e : Expr} {t : Option Expr} {l : Nat} {env : PySem.Env} (h : isComp e = false) : swapsWith e t l env = pure false := by
  cases e <;> first | rfl | (simp [isComp] at h)
theorem plainIx_ok {b : Expr} (h : noSlice b = true) : PlainIx b := by
  intro o i
  cases b <;> first | rfl | (simp [noSlice] at h)
theorem vis_of {sc : Scope} {x : Str} (h : visB sc x = true) : Vis sc x := by
  unfold visB at h
  split at h <;> first | exact .inl (by assumption) | exact .inr (.inl (by assumption)) | exact .inr (.inr (by assumption)) | cases h
theorem okName_of {x : Str} (h : okName x = true) : (x == ("__debug__" : Str)) = false ∧ (x == ("__classdict__" : Str)) = false ∧ x ≠ "__name__" := by
  unfold okName at h
  simp only [Bool.and_eq_true, Bool.not_eq_true'] at h
  refine ⟨h.1.1, h.1.2, fun q => ?_⟩
  have := h.2
  rw [q] at this
  simp at this
theorem ixOf_ok : ∀ {N : List Str} {x : Str} {i : Nat}, ixOf N x = some i → N[i]? = some x
  | [], _, _, h => by simp [ixOf] at h
  | y :: r, x, i, h => by
    unfold ixOf at h
    split at h
    · rename_i e
      cases h
      rw [e]
      rfl
    · cases q : ixOf r x with
      | none => rw [q] at h; cases h
      | some j =>
        rw [q] at h
        simp only [Option.map_some, Option.some.injEq] at h
        subst h
        simpa using ixOf_ok q

section
variable {X : Cx} {io : Nat → Option Addr} {cf : CallF} {a b c e : Expr} {ca cb cc : CE} {ta tb : TE} {pos : Pos}

/-- operands -/
theorem s_opd (h : PE X e (TX X.K io (evE cf ca))) (hv : ∀ i, ca = .var i → PE X e (tVar i)) : PE X e (TOp X.K io fun env => opd ca env (evE cf ca env)) := by
  refine PE.by' fun σ H Q hq => ?_
  obtain ⟨Ex, env, o, env', R, ev, k⟩ := hq
  by_cases hc : ∃ i, ca = .var i
  · obtain ⟨i, rfl⟩ := hc
    refine ⟨_, hv i rfl, ?_⟩
    simp only [opd] at ev
    split at ev
    · rename_i d q
      cases ev
      obtain ⟨v, e1, r⟩ := R.slot i _ q
      exact ⟨v, e1, k v H (Pst.refl R) r⟩
    · rename_i d q
      cases ev
      obtain ⟨p, e1, _, _⟩ := R.slot i _ q
      exact ⟨_, e1, k _ H (Pst.refl R) e1⟩
    · rename_i d q
      cases ev
      obtain ⟨p, _, e1, _, _⟩ := R.slot i _ q
      exact ⟨_, e1, k _ H (Pst.refl R) e1⟩
    · cases ev
  · refine ⟨_, h, ?_⟩
    have ev' : (match evE cf ca env with | some (d, e) => some (Op.v d, e) | none => none) = some (o, env') := by
      cases ca <;> first | exact absurd ⟨_, rfl⟩ hc | exact ev
    split at ev'
    · rename_i d e1 q
      cases ev'
      exact ⟨Ex, env, d, _, R, q, fun v H' p r => k v H' p r⟩
    · cases ev'
theorem s_var {i : Nat} (h : PE X e (tVar i)) : PE X e (TX X.K io (evE cf (.var i))) := by
  refine h.imp fun σ H Q hq => ?_
  obtain ⟨Ex, env, d, env', R, ev, k⟩ := hq
  simp only [evE, load] at ev
  split at ev
  · rename_i d' q
    cases ev
    obtain ⟨v, e1, r⟩ := R.slot i _ q
    exact ⟨v, e1, k v H (Pst.refl R) r⟩
  · rename_i d' q
    cases ev
    obtain ⟨p, e1, ps, r⟩ := R.freeze q
    exact ⟨_, e1, k _ H ps r⟩
  · cases ev
theorem s_lit {d : D} {v : V} (h : PE X e (tC v)) (hr : ∀ H Z, Rp X.K H Z d v) : PE X e (TX X.K io (evE cf (.lit d))) := by
  refine h.imp fun σ H Q hq => ?_
  obtain ⟨Ex, env, d', env', R, ev, k⟩ := hq
  simp only [evE] at ev
  cases ev
  exact k v H (Pst.refl R) (hr _ _)
/-- two operands, then what is reckoned of them -/
theorem s_two {g : D → D → Option D} {r : R2} (hr : ∀ x y H Q, rBin X.K g x y H Q → r x y H Q) {σ : St} {H : Hp} {Q : VK} {ev : Env → R}
    (hi : ∀ env d env', ev env = some (d, env') → ∃ x e1 y p q, opd ca env (evE cf ca env) = some (x, e1) ∧ opd cb e1 (evE cf cb e1) = some (y, env') ∧ rd x env' = some p ∧ rd y env' = some q ∧ g p q = some d)
    (h : TX X.K io ev σ H Q) : tOp r (TOp X.K io fun env => opd ca env (evE cf ca env)) (TOp X.K io fun env => opd cb env (evE cf cb env)) σ H Q := by
  obtain ⟨Ex, env, d, env', R, ev', k⟩ := h
  obtain ⟨x, e1, y, p, q, h1, h2, h3, h4, h5⟩ := hi _ _ _ ev'
  refine ⟨Ex, env, x, e1, R, h1, fun v H1 p1 o1 => ⟨Ex, e1, y, env', p1.rel, h2, fun u H2 p2 o2 => hr _ _ _ _ ⟨Zs σ env' Ex, p, q, d, fun a z => p2.rel.there z, rd_ok p2.rel h3 (o1.ft p2.zs), rd_ok p2.rel h4 o2, h5, fun w H3 s rp => k w H3 ((p1.trans p2).trans (p2.rel.pst_same s)) rp⟩⟩⟩
theorem bin_inv {o : Bop} {env env' : Env} {d : D} (h : evE cf (.bin o ca cb) env = some (d, env')) :
    ∃ x e1 y p q, opd ca env (evE cf ca env) = some (x, e1) ∧ opd cb e1 (evE cf cb e1) = some (y, env') ∧ rd x env' = some p ∧ rd y env' = some q ∧ binD o p q = some d := by
  simp only [evE] at h
  split at h
  · cases h
  rename_i x e1 h1
  split at h
  · cases h
  rename_i y e2 h2
  split at h
  · rename_i p q h3 h4
    split at h
    · rename_i d' h5
      cases h
      exact ⟨x, e1, y, p, q, h1, h2, h3, h4, h5⟩
    · cases h
  · cases h
theorem cmp_inv {o : Cop} {env env' : Env} {d : D} (h : evE cf (.cmp o ca cb) env = some (d, env')) :
    ∃ x e1 y p q k, opd ca env (evE cf ca env) = some (x, e1) ∧ opd cb e1 (evE cf cb e1) = some (y, env') ∧ rd x env' = some p ∧ rd y env' = some q ∧ cmpD o p q = some k ∧ d = .bl k := by
  simp only [evE] at h
  split at h
  · cases h
  rename_i x e1 h1
  split at h
  · cases h
  rename_i y e2 h2
  split at h
  · rename_i p q h3 h4
    split at h
    · rename_i d' h5
      cases h
      exact ⟨x, e1, y, p, q, d', h1, h2, h3, h4, h5, rfl⟩
    · cases h
  · cases h
abbrev TO (X : Cx) (io : Nat → Option Addr) (cf : CallF) (c : CE) : TE := TOp X.K io fun env => opd c env (evE cf c env)
abbrev TE1 (X : Cx) (io : Nat → Option Addr) (cf : CallF) (c : CE) : TE := TX X.K io (evE cf c)
theorem s_bin {op : Operator} {o : Bop} (ho : bopOf op = some o) (ha : PE X a (TO X io cf ca)) (hb : PE X b (TO X io cf cb)) : PE X (.BinOp a op b pos) (TE1 X io cf (.bin o ca cb)) := by
  have : op = oprOf o := by cases op <;> simp [bopOf] at ho <;> subst ho <;> rfl
  subst this
  exact (pe_op (op_bin o) ha hb).imp fun σ H Q h => s_two (fun _ _ _ _ q => q) (fun _ _ _ e => bin_inv e) h
/-- a comparison's reading from a tree's -/
theorem s_cmpT {o : Cop} {σ : St} {H : Hp} {Q : VK} (h : TE1 X io cf (.cmp o ca cb) σ H Q) : tOp (rCmp X.K (cmpD o)) (TO X io cf ca) (TO X io cf cb) σ H Q := by
  obtain ⟨Ex, env, d, env', R, ev', k⟩ := h
  obtain ⟨x, e1, y, p, q, kk, h1, h2, h3, h4, h5, rfl⟩ := cmp_inv ev'
  exact ⟨Ex, env, x, e1, R, h1, fun v H1 p1 o1 => ⟨Ex, e1, y, env', p1.rel, h2, fun u H2 p2 o2 => ⟨Zs σ env' Ex, p, q, kk, rd_ok p2.rel h3 (o1.ft p2.zs), rd_ok p2.rel h4 o2, h5, k _ H2 (p1.trans p2) rp_bl⟩⟩⟩
theorem copOf_ok (op : CmpOp) : cprOf (copOf op) = op := by cases op <;> rfl
theorem s_cmp {op : CmpOp} (hu : X.A.units + 65 < cLine) (hs : noSet b = true) (ha : PE X a (TO X io cf ca)) (hb : PE X b (TO X io cf cb)) : PE X (.Compare a [op] [b] pos) (TE1 X io cf (.cmp (copOf op) ca cb)) :=
  (pe_cmpR (by have := cmp_all hu (copOf op); rw [copOf_ok] at this; exact this) ha hb (marks_ok hs)).imp fun σ H Q h => s_cmpT h
/-- a test of a tree (no name that is the frame's own) -/
def tstF (ev : Env → R) (env : Env) : Option (Bool × Env) := match ev env with
  | none => none
  | some (d, e) => match truth d with
    | none => none
    | some b => some (b, e)
theorem tst_tstF {env : Env} (h : ∀ i, ca ≠ .var i) : tst ca env (evE cf ca env) = tstF (evE cf ca) env := by
  have e : opd ca env (evE cf ca env) = (match evE cf ca env with | some (d, e) => some (Op.v d, e) | none => none) := by
    cases ca <;> first | exact absurd rfl (h _) | rfl
  unfold tst tstF
  rw [e]
  cases evE cf ca env with
  | none => rfl
  | some p => rfl
abbrev TBF (X : Cx) (io : Nat → Option Addr) (cf : CallF) (c : CE) : TT := TB X.K io (tstF (evE cf c))
abbrev TBT (X : Cx) (io : Nat → Option Addr) (cf : CallF) (c : CE) : TT := TB X.K io fun env => tst c env (evE cf c env)
theorem tstF_inv {ev : Env → R} {env env' : Env} {b : Bool} (h : tstF ev env = some (b, env')) : ∃ d, ev env = some (d, env') ∧ truth d = some b := by
  unfold tstF at h
  split at h
  · cases h
  · rename_i d e1 h1
    split at h
    · cases h
    · rename_i b' h2
      cases h
      exact ⟨d, h1, h2⟩
theorem tst_inv {env env' : Env} {b : Bool} {r : R} (h : tst ca env r = some (b, env')) : ∃ o d, opd ca env r = some (o, env') ∧ rd o env' = some d ∧ truth d = some b := by
  unfold tst at h
  split at h
  · cases h
  · rename_i o e1 h1
    split at h
    · cases h
    · rename_i d h2
      split at h
      · cases h
      · rename_i b' h3
        cases h
        exact ⟨o, d, h1, h2, h3⟩
/-- an expression whose test is its value's truth -/
theorem s_truth (h : PE X e (TO X io cf ca)) (he : ∀ whole, isTrue e X.env whole = (do let v ← whole; standAt e.pos; holding [v] (truthy v))) : PT X e (TBT X io cf ca) := by
  refine (pt_truth h he).imp fun σ H Q hq => ?_
  obtain ⟨Ex, env, b, env', R, ev, k⟩ := hq
  obtain ⟨o, d, h1, h2, h3⟩ := tst_inv ev
  exact ⟨Ex, env, o, env', R, h1, fun v H1 p1 o1 => ⟨b, tru_d trivial (rd_ok p1.rel h2 o1) h3, k H1 p1⟩⟩
theorem s_truthF (h : PE X e (TE1 X io cf ca)) (he : ∀ whole, isTrue e X.env whole = (do let v ← whole; standAt e.pos; holding [v] (truthy v))) : PT X e (TBF X io cf ca) := by
  refine (pt_truth h he).imp fun σ H Q hq => ?_
  obtain ⟨Ex, env, b, env', R, ev, k⟩ := hq
  obtain ⟨d, h1, h3⟩ := tstF_inv ev
  exact ⟨Ex, env, d, env', R, h1, fun v H1 p1 o1 => ⟨b, tru_d trivial (.inl o1) h3, k H1 p1⟩⟩
theorem s_cmpB {op : CmpOp} (hu : X.A.units + 65 < cLine) (hs : noSet b = true) (ha : PE X a (TO X io cf ca)) (hb : PE X b (TO X io cf cb)) : PT X (.Compare a [op] [b] pos) (TBF X io cf (.cmp (copOf op) ca cb)) := by
  refine (pt_cmpR (by have := cmp_all hu (copOf op); rw [copOf_ok] at this; exact this) ha hb (marks_ok hs)).imp fun σ H Q h => ?_
  obtain ⟨Ex, env, bb, env', R, ev, k⟩ := h
  obtain ⟨d, h1, h2⟩ := tstF_inv ev
  refine s_cmpT ⟨Ex, env, d, env', R, h1, fun v H' p r => ?_⟩
  obtain ⟨_, _, _, _, _, kk, _, _, _, _, _, rfl⟩ := cmp_inv h1
  simp only [truth, Option.some.injEq] at h2
  subst h2
  simp only [Rp] at r
  exact ⟨_, r, k H' p⟩
end
end Cv
end

section
/-! CvK: more rules: chains, and, or, not, choices, displays, built-ins, items, slices. -/
set_option autoImplicit false
set_option linter.all false
set_option maxRecDepth 100000
namespace Cv
open PySem PySem.Spec L2

theorem ifT {p q : Prop} (h : p) : (if true = true then p else q) := by rw [if_pos rfl]; exact h
theorem ifF {p q : Prop} (h : q) : (if false = true then p else q) := by rw [if_neg Bool.false_ne_true]; exact h

section
variable {X : Cx} {io : Nat → Option Addr} {cf : CallF} {a b c e : Expr} {ca cb cc : CE} {ta tb : TE} {pos : Pos} {rest : List Expr}

theorem chain_inv {o p : Cop} {env env' : Env} {d : D} (h : evE cf (.chain o p ca cb cc) env = some (d, env')) :
    ∃ x e1 y e2 k, evE cf ca env = some (x, e1) ∧ evE cf cb e1 = some (y, e2) ∧ cmpD o x y = some k ∧
      ((k = false ∧ d = .bl false ∧ env' = e2) ∨ (k = true ∧ ∃ z k', evE cf cc e2 = some (z, env') ∧ cmpD p y z = some k' ∧ d = .bl k')) := by
  simp only [evE] at h
  split at h
  · cases h
  rename_i x e1 h1
  split at h
  · cases h
  rename_i y e2 h2
  split at h
  · cases h
  · rename_i h3
    cases h
    exact ⟨x, e1, y, _, false, h1, h2, h3, .inl ⟨rfl, rfl, rfl⟩⟩
  · rename_i h3
    split at h
    · cases h
    rename_i z e3 h4
    split at h
    · rename_i k h5
      cases h
      exact ⟨x, e1, y, e2, true, h1, h2, h3, .inr ⟨rfl, z, k, h4, h5, rfl⟩⟩
    · cases h
theorem s_chainT {o p : Cop} {σ : St} {H : Hp} {Q : VK} (h : TE1 X io cf (.chain o p ca cb cc) σ H Q) : tChain (rCmp X.K (cmpD o)) (rCmp X.K (cmpD p)) (TE1 X io cf ca) (TE1 X io cf cb) (TE1 X io cf cc) σ H Q := by
  obtain ⟨Ex, env, d, env', R, ev', k⟩ := h
  obtain ⟨x, e1, y, e2, kk, h1, h2, h3, h4⟩ := chain_inv ev'
  refine ⟨Ex, env, x, e1, R, h1, fun v H1 p1 o1 => ⟨Ex, e1, y, e2, p1.rel, h2, fun u H2 p2 o2 => ⟨Zs σ e2 Ex, x, y, kk, .inl (Rp.ft p2.zs _ _ o1), .inl o2, h3, kk, rfl, ?_⟩⟩⟩
  rcases h4 with ⟨rfl, rfl, rfl⟩ | ⟨rfl, z, k', h4, h5, rfl⟩
  · rw [if_neg Bool.false_ne_true]
    exact k _ H2 (p1.trans p2) rp_bl
  · rw [if_pos rfl]
    exact ⟨Ex, e2, z, env', p2.rel, h4, fun w H3 p3 o3 => ⟨Zs σ env' Ex, y, z, k', .inl (Rp.ft p3.zs _ _ o2), .inl o3, h5, k _ H3 ((p1.trans p2).trans p3) rp_bl⟩⟩
theorem marks2 {op op' : CmpOp} (h : noSet c = true) : lastMarks [op, op'] [b, c] = false := by
  show lastMarks [op'] [c] = false
  exact marks_ok h
theorem s_chain {op op' : CmpOp} (hu : X.A.units + 65 < cLine) (hs : noSet c = true) (ha : PE X a (TE1 X io cf ca)) (hb : PE X b (TE1 X io cf cb)) (hc : PE X c (TE1 X io cf cc)) :
    PE X (.Compare a [op, op'] [b, c] pos) (TE1 X io cf (.chain (copOf op) (copOf op') ca cb cc)) :=
  (pe_chain (by have := cmp_all hu (copOf op); rw [copOf_ok] at this; exact this) (by have := cmp_all hu (copOf op'); rw [copOf_ok] at this; exact this) ha hb hc (marks2 hs)).imp fun σ H Q h => s_chainT h
theorem s_chainB {op op' : CmpOp} (hu : X.A.units + 65 < cLine) (hs : noSet c = true) (ha : PE X a (TE1 X io cf ca)) (hb : PE X b (TE1 X io cf cb)) (hc : PE X c (TE1 X io cf cc)) :
    PT X (.Compare a [op, op'] [b, c] pos) (TBF X io cf (.chain (copOf op) (copOf op') ca cb cc)) := by
  refine (pt_chain (by have := cmp_all hu (copOf op); rw [copOf_ok] at this; exact this) (by have := cmp_all hu (copOf op'); rw [copOf_ok] at this; exact this) ha hb hc (marks2 hs)).imp fun σ H Q h => ?_
  obtain ⟨Ex, env, bb, env', R, ev, k⟩ := h
  obtain ⟨d, h1, h2⟩ := tstF_inv ev
  refine s_chainT ⟨Ex, env, d, env', R, h1, fun v H' p r => ?_⟩
  have hd : ∃ kk, d = .bl kk := by
    obtain ⟨_, _, _, _, _, _, _, _, hh⟩ := chain_inv h1
    rcases hh with ⟨_, rfl, _⟩ | ⟨_, _, _, _, _, rfl⟩ <;> exact ⟨_, rfl⟩
  obtain ⟨kk, rfl⟩ := hd
  simp only [truth, Option.some.injEq] at h2
  subst h2
  simp only [Rp] at r
  exact ⟨_, r, k H' p⟩

/-! ### and, or, not -/
theorem s_and (ha : PE X a (TE1 X io cf ca)) (hb : PE X (.BoolOp .And (b :: rest) pos) (TE1 X io cf cb)) : PE X (.BoolOp .And (a :: b :: rest) pos) (TE1 X io cf (.andt ca cb)) := by
  refine (pe_andT ha hb).imp fun σ H Q h => ?_
  obtain ⟨Ex, env, d, env', R, ev, k⟩ := h
  simp only [evE] at ev
  split at ev
  · cases ev
  rename_i x e1 h1
  split at ev
  · cases ev
  · rename_i h2
    exact ⟨Ex, env, x, e1, R, h1, fun v H1 p1 o1 => ⟨true, tru_d trivial (.inl o1) h2, ifT <| ⟨Ex, e1, d, env', p1.rel, ev, fun u H2 p2 o2 => k u H2 (p1.trans p2) o2⟩⟩⟩
  · rename_i h2
    cases ev
    exact ⟨Ex, env, _, _, R, h1, fun v H1 p1 o1 => ⟨false, tru_d trivial (.inl o1) h2, ifF <| k v H1 p1 o1⟩⟩
theorem s_or (ha : PE X a (TE1 X io cf ca)) (hb : PE X (.BoolOp .Or (b :: rest) pos) (TE1 X io cf cb)) : PE X (.BoolOp .Or (a :: b :: rest) pos) (TE1 X io cf (.ort ca cb)) := by
  refine (pe_orT ha hb).imp fun σ H Q h => ?_
  obtain ⟨Ex, env, d, env', R, ev, k⟩ := h
  simp only [evE] at ev
  split at ev
  · cases ev
  rename_i x e1 h1
  split at ev
  · cases ev
  · rename_i h2
    cases ev
    exact ⟨Ex, env, _, _, R, h1, fun v H1 p1 o1 => ⟨true, tru_d trivial (.inl o1) h2, ifT <| k v H1 p1 o1⟩⟩
  · rename_i h2
    exact ⟨Ex, env, x, e1, R, h1, fun v H1 p1 o1 => ⟨false, tru_d trivial (.inl o1) h2, ifF <| ⟨Ex, e1, d, env', p1.rel, ev, fun u H2 p2 o2 => k u H2 (p1.trans p2) o2⟩⟩⟩
theorem s_andB (ha : PT X a (TBF X io cf ca)) (hb : PW X (.BoolOp .And (b :: rest) pos) (TBF X io cf cb)) : PW X (.BoolOp .And (a :: b :: rest) pos) (TBF X io cf (.andt ca cb)) := by
  refine ⟨fun wh pins s σ H Q I h => (pw_and ha hb).run wh pins s σ H Q I ?_⟩
  obtain ⟨Ex, env, bb, env', R, ev, k⟩ := h
  obtain ⟨d, h1, h2⟩ := tstF_inv ev
  simp only [evE] at h1
  split at h1
  · cases h1
  rename_i x e1 g1
  split at h1
  · cases h1
  · rename_i g2
    exact ⟨Ex, env, true, e1, R, by unfold tstF; rw [g1]; simp only [g2], fun H1 p1 => ifT <| ⟨Ex, e1, bb, env', p1.rel, by unfold tstF; rw [h1]; simp only [h2], fun H2 p2 => k H2 (p1.trans p2)⟩⟩
  · rename_i g2
    cases h1
    rw [g2] at h2
    cases h2
    exact ⟨Ex, env, false, _, R, by unfold tstF; rw [g1]; simp only [g2], fun H1 p1 => ifF <| k H1 p1⟩
theorem s_orB (ha : PT X a (TBF X io cf ca)) (hb : PW X (.BoolOp .Or (b :: rest) pos) (TBF X io cf cb)) : PW X (.BoolOp .Or (a :: b :: rest) pos) (TBF X io cf (.ort ca cb)) := by
  refine ⟨fun wh pins s σ H Q I h => (pw_or ha hb).run wh pins s σ H Q I ?_⟩
  obtain ⟨Ex, env, bb, env', R, ev, k⟩ := h
  obtain ⟨d, h1, h2⟩ := tstF_inv ev
  simp only [evE] at h1
  split at h1
  · cases h1
  rename_i x e1 g1
  split at h1
  · cases h1
  · rename_i g2
    cases h1
    rw [g2] at h2
    cases h2
    exact ⟨Ex, env, true, _, R, by unfold tstF; rw [g1]; simp only [g2], fun H1 p1 => ifT <| k H1 p1⟩
  · rename_i g2
    exact ⟨Ex, env, false, e1, R, by unfold tstF; rw [g1]; simp only [g2], fun H1 p1 => ifF <| ⟨Ex, e1, bb, env', p1.rel, by unfold tstF; rw [h1]; simp only [h2], fun H2 p2 => k H2 (p1.trans p2)⟩⟩
theorem not_inv {env env' : Env} {d : D} (h : evE cf (.nott ca) env = some (d, env')) : ∃ k, tst ca env (evE cf ca env) = some (k, env') ∧ d = .bl (!k) := by
  simp only [evE] at h
  split at h
  · cases h
  rename_i k e1 h1
  cases h
  exact ⟨k, h1, rfl⟩
theorem s_not (ha : PE X a (TO X io cf ca)) : PE X (.UnaryOp .Not a pos) (TE1 X io cf (.nott ca)) := by
  refine (pe_notT ha).imp fun σ H Q h => ?_
  obtain ⟨Ex, env, d, env', R, ev, k⟩ := h
  obtain ⟨kk, h1, rfl⟩ := not_inv ev
  obtain ⟨o, d, g1, g2, g3⟩ := tst_inv h1
  exact ⟨Ex, env, o, env', R, g1, fun v H1 p1 o1 => ⟨kk, tru_d trivial (rd_ok p1.rel g2 o1) g3, k _ H1 p1 rp_bl⟩⟩
theorem s_notB (ha : PT X a (TBT X io cf ca)) : PT X (.UnaryOp .Not a pos) (TBF X io cf (.nott ca)) := by
  refine (pt_not ha).imp fun σ H Q h => ?_
  obtain ⟨Ex, env, bb, env', R, ev, k⟩ := h
  obtain ⟨d, h1, h2⟩ := tstF_inv ev
  obtain ⟨kk, h3, rfl⟩ := not_inv h1
  simp only [truth, Option.some.injEq] at h2
  subst h2
  exact ⟨Ex, env, kk, env', R, h3, fun H1 p1 => k H1 p1⟩
theorem s_neg (ha : PE X a (TE1 X io cf ca)) : PE X (.UnaryOp .USub a pos) (TE1 X io cf (.neg ca)) := by
  refine (pe_un un_neg ha).imp fun σ H Q h => ?_
  obtain ⟨Ex, env, d, env', R, ev, k⟩ := h
  simp only [evE] at ev
  split at ev
  · rename_i i e1 h1
    cases ev
    exact ⟨Ex, env, .int i, _, R, h1, fun v H1 p1 o1 => ⟨i, by simpa only [Rp] using o1, k _ H1 p1 rp_int⟩⟩
  · cases ev
theorem s_ite (hc : PT X c (TBT X io cf cc)) (ha : PE X a (TE1 X io cf ca)) (hb : PE X b (TE1 X io cf cb)) : PE X (.IfExp c a b pos) (TE1 X io cf (.ite cc ca cb)) := by
  refine (pe_ifExp hc ha hb).imp fun σ H Q h => ?_
  obtain ⟨Ex, env, d, env', R, ev, k⟩ := h
  simp only [evE] at ev
  split at ev
  · cases ev
  · rename_i e1 h1
    exact ⟨Ex, env, true, e1, R, h1, fun H1 p1 => ifT <| ⟨Ex, e1, d, env', p1.rel, ev, fun v H2 p2 o2 => k v H2 (p1.trans p2) o2⟩⟩
  · rename_i e1 h1
    exact ⟨Ex, env, false, e1, R, h1, fun H1 p1 => ifF <| ⟨Ex, e1, d, env', p1.rel, ev, fun v H2 p2 o2 => k v H2 (p1.trans p2) o2⟩⟩
/-- a choice as a test -/
theorem pt_ifExp {tc tA tB' : TT} (hc : PT X c tc) (ha : PT X a tA) (hb : PT X b tB') : PT X (.IfExp c a b pos) (fun σ H Q => tc σ H fun d H1 => if d = true then tA σ H1 Q else tB' σ H1 Q) := by
  refine ⟨fun pins s σ H Q I h => ?_⟩
  show wpAny _ _ (isTrue c X.env (eval c X.env) >>= fun d => if d = true then isTrue a X.env (eval a X.env) else isTrue b X.env (eval b X.env)) _ _ s
  refine wpAny_bind (thn (hc.run pins s σ H _ I h) fun d s1 hd => ?_)
  obtain ⟨H1, I1, q1⟩ := hd
  cases d with
  | true => exact ha.run pins s1 σ H1 Q I1 q1
  | false => exact hb.run pins s1 σ H1 Q I1 q1
theorem s_iteB (hc : PT X c (TBT X io cf cc)) (ha : PT X a (TBF X io cf ca)) (hb : PT X b (TBF X io cf cb)) : PT X (.IfExp c a b pos) (TBF X io cf (.ite cc ca cb)) := by
  refine (pt_ifExp hc ha hb).imp fun σ H Q h => ?_
  obtain ⟨Ex, env, bb, env', R, ev, k⟩ := h
  obtain ⟨d, h1, h2⟩ := tstF_inv ev
  simp only [evE] at h1
  split at h1
  · cases h1
  · rename_i e1 g1
    exact ⟨Ex, env, true, e1, R, g1, fun H1 p1 => ifT <| ⟨Ex, e1, bb, env', p1.rel, by unfold tstF; rw [h1]; simp only [h2], fun H2 p2 => k H2 (p1.trans p2)⟩⟩
  · rename_i e1 g1
    exact ⟨Ex, env, false, e1, R, g1, fun H1 p1 => ifF <| ⟨Ex, e1, bb, env', p1.rel, by unfold tstF; rw [h1]; simp only [h2], fun H2 p2 => k H2 (p1.trans p2)⟩⟩

/-! ### lists of expressions -/
def TL (K : PySem.W.Frag) (io : Nat → Option Addr) (ev : Env → Option (List D × Env)) : TA := fun σ H Q => ∃ (Ex : Addr → Prop) (env : Env) (ds : List D) (env' : Env), Rel K io Ex H σ env ∧ ev env = some (ds, env') ∧
  ∀ vs H', Pst K io Ex H σ env H' σ env' → RpL K H' (Zs σ env' Ex) ds vs → Q vs H'
abbrev TL1 (X : Cx) (io : Nat → Option Addr) (cf : CallF) (c : CEs) : TA := TL X.K io (evL cf c)
theorem _root_.L2.PA.imp {X : Cx} {es : List Expr} {t t' : TA} (h : PA X es t) (i : ∀ σ H Q, t' σ H Q → t σ H Q) : PA X es t' := ⟨fun pos pins s σ H Q I hw => h.run pos pins s σ H Q I (i σ H Q hw)⟩
theorem s_nil : PA X [] (TL1 X io cf .nil) := by
  refine pa_nil.imp fun σ H Q h => ?_
  obtain ⟨Ex, env, d, env', R, ev, k⟩ := h
  simp only [evL] at ev
  cases ev
  exact k [] H (Pst.refl R) RpL.nil
theorem s_cons {es : List Expr} {cs : CEs} (hs : noStar e = true) (he : PE X e (TE1 X io cf ca)) (hr : PA X es (TL1 X io cf cs)) : PA X (e :: es) (TL1 X io cf (.cons ca cs)) := by
  refine (pa_cons he hr (star_cons hs)).imp fun σ H Q h => ?_
  obtain ⟨Ex, env, d, env', R, ev, k⟩ := h
  simp only [evL] at ev
  split at ev
  · cases ev
  rename_i x e1 h1
  split at ev
  · cases ev
  rename_i ds e2 h2
  cases ev
  exact ⟨Ex, env, x, e1, R, h1, fun v H1 p1 o1 => ⟨Ex, e1, ds, _, p1.rel, h2, fun vs H2 p2 o2 => k (v :: vs) H2 (p1.trans p2) (RpL.cons (Rp.ft p2.zs _ _ o1) o2)⟩⟩
theorem disp_inv {es : CEs} {f : List D → D} {env env' : Env} {d : D} (h : (match evL cf es env with | some (ds, e) => if lenOk ds.length then some (f ds, e) else none | none => none) = some (d, env')) :
    ∃ ds, evL cf es env = some (ds, env') ∧ lenOk ds.length = true ∧ d = f ds := by
  split at h
  · rename_i ds e1 h1
    split at h
    · rename_i h2
      cases h
      exact ⟨ds, h1, h2, rfl⟩
    · cases h
  · cases h
theorem s_tup {es : List Expr} {cs : CEs} {x1 : Nat} (h : PA X es (TL1 X io cf cs)) : PE X (.Tuple es x1 pos) (TE1 X io cf (.tup cs)) := by
  refine (pe_tupF h).imp fun σ H Q h => ?_
  obtain ⟨Ex, env, d, env', R, ev, k⟩ := h
  simp only [evE] at ev
  obtain ⟨ds, h1, h2, rfl⟩ := disp_inv (f := D.tup) ev
  refine ⟨Ex, env, ds, env', R, h1, fun vs H1 p1 o1 => ⟨by rw [o1.length]; exact lenOk_le h2, fun p o hp po => k _ _ (p1.trans (p1.rel.pst_same (same_upd hp))) (rp_tup hp (fun z => p1.rel.there z hp) o1 po)⟩⟩
/-- a new object: first its own, then let go -/
theorem TF.of {ev : Env → R} {σ : St} {H : Hp} {Q : VK} (h : TX X.K io ev σ H Q) : TF X.K io ev σ H Q := by
  obtain ⟨Ex, env, d, env', R, e, k⟩ := h
  refine ⟨Ex, env, d, env', R, e, fun p H' ps R' n c => ?_⟩
  have np : ¬ Ex p := fun z => n.elim (R.ext p z) fun ⟨i, o⟩ => (R.ow o).1 z
  have no : ¬ Ow σ env' p := fun ⟨i, o⟩ => (R'.ow o).1 (.inr rfl)
  have less : Ft H' (Zs σ env' (bar Ex p)) H' (Zs σ env' Ex) := Ft.less fun a z => z.imp id .inl
  exact k _ H' ps ((c.ft less fun _ q => q).rp fun z => z.elim no np)
end
end Cv
end

section
/-! CvL: more rules: new lists, built-ins, items, slices, methods. -/
set_option autoImplicit false
set_option linter.all false
set_option maxRecDepth 100000
namespace Cv
open PySem PySem.Spec L2

theorem Pst.new {K : PySem.W.Frag} {io : Nat → Option Addr} {Ex : Addr → Prop} {H H' : Hp} {σ σ' : St} {env env' : Env} {p : Addr} (ps : Pst K io Ex H σ env H' σ' env') (h : H' p = none ∨ Ow σ' env' p) : H p = none ∨ Ow σ env p := by
  cases q : H p with
  | none => exact .inl rfl
  | some o =>
    by_cases z : Ow σ env p
    · exact .inr z
    · obtain ⟨z1, z2⟩ := ps.ft p o q z
      rcases h with h | h
      · rw [h] at z1; cases z1
      · exact absurd h z2
section
variable {K : PySem.W.Frag} {io : Nat → Option Addr} {Ex : Addr → Prop} {H H1 : Hp} {σ : St} {env env' : Env}
theorem Rel.fresh (R : Rel K io Ex H σ env) {p : Addr} (n : H p = none) : ¬ Zs σ env Ex p := fun z => R.there z n
theorem Rel.newbar (R : Rel K io Ex H σ env) {p : Addr} {o : HO} (n : H p = none) : Rel K io (bar Ex p) (upd H p o) σ env :=
  R.re (fun b u e nz => ⟨same_upd n b u e, fun z => z.elim (fun z => nz (.inl z)) fun z => z.elim (fun z => nz (.inr z)) fun z => by subst z; rw [n] at e; cases e⟩)
    (fun a o => ⟨fun u e => same_upd n a u e, fun z => z.elim (fun z => by obtain ⟨i, o⟩ := o; exact (R.ow o).1 z) fun z => by subst z; exact R.fresh n (.inl o)⟩)
    (fun _ _ _ _ x => .inl x) fun a z => z.elim (fun z => by
      cases q : H a with
      | none => exact absurd q (R.ext a z)
      | some u => rw [same_upd n a u q]; simp) fun z => by subst z; rw [upd_same]; simp
theorem Pst.ownOr (p1 : Pst K io Ex H σ env H1 σ env') {p : Addr} (hp : H1 p = none) : H p = none ∨ Ow σ env p := by
  cases q : H p with
  | none => exact .inl rfl
  | some o =>
    by_cases z : Ow σ env p
    · exact .inr z
    · have := (p1.ft p o q z).1
      rw [hp] at this
      cases this
theorem Rel.less_new (R : Rel K io Ex H σ env) {p : Addr} {o : HO} (n : H p = none) : Ft H (Zs σ env Ex) (upd H p o) (Zs σ env (bar Ex p)) := fun b u e nz =>
  ⟨same_upd n b u e, fun z => z.elim (fun z => nz (.inl z)) fun z => z.elim (fun z => nz (.inr z)) fun z => by subst z; rw [n] at e; cases e⟩
/-- a new object stands, others stand as behind a step ahead of which the bar was put -/
theorem Pst.unbar {H0 H2 H3 : Hp} {σ' : St} {q : Addr} (R : Rel K io Ex H σ env) (hq : H q = none ∨ Ow σ env q) (p : Pst K io (bar Ex q) H0 σ env H2 σ' env') (h0 : ∀ b u, H b = some u → H0 b = some u)
    (h3 : ∀ b u, H2 b = some u → b ≠ q → H3 b = some u) (hn : H3 q ≠ none) : Pst K io Ex H σ env H3 σ' env' ∧ Rel K io (bar Ex q) H3 σ' env' := by
  have np : ¬ Ex q := fun z => hq.elim (R.ext q z) fun ⟨i, o⟩ => (R.ow o).1 z
  have no : ∀ a, Ow σ' env' a → a ≠ q := fun a ⟨i, o⟩ z => (p.rel.ow o).1 (.inr z)
  have ex3 : ∀ a, Ex a → H3 a ≠ none := fun a z => by
    cases w : H2 a with
    | none => exact absurd w (p.rel.ext a (.inl z))
    | some u => rw [h3 a u w fun e => by subst e; exact np z]; simp
  refine ⟨⟨p.rel.re (fun b u e n => ⟨h3 b u e fun z => n (.inr (.inr z)), fun z => n (z.imp _root_.id .inl)⟩) (fun a o => ⟨fun u e => h3 a u e (no a o), fun z => by obtain ⟨i, o⟩ := o; exact (p.rel.ow o).1 (.inl z)⟩)
    (fun i a e1 e2 x => x.elim _root_.id fun z => ?_) ex3, fun b u e n => ?_, p.lent⟩, p.rel.re (fun b u e n => ⟨h3 b u e fun z => n (.inr (.inr z)), n⟩)
    (fun a o => ⟨fun u e => h3 a u e (no a o), by obtain ⟨i, o⟩ := o; exact (p.rel.ow o).1⟩) (fun _ _ _ _ x => x) fun a x => x.elim (ex3 a) fun z => by subst z; exact hn⟩
  · obtain ⟨l1, l2⟩ := p.lent i e1
    obtain ⟨b, e3, x3⟩ := R.slot i _ l1
    rw [l2, e3] at e2
    cases e2
    exact x3
  · obtain ⟨z1, z2⟩ := p.ft b u (h0 b u e) n
    exact ⟨h3 b u z1 (fun z => by
      subst z
      rcases hq with hq | hq
      · rw [hq] at e; cases e
      · exact n hq), z2⟩
theorem tf_new {Q : VK} (p1 : Pst K io Ex H σ env H1 σ env') {ds : List D} {vs : List V} (r : RpL K H1 (Zs σ env' Ex) ds vs)
    (k : ∀ p H', Pst K io Ex H σ env H' σ env' → Rel K io (bar Ex p) H' σ env' → (H p = none ∨ Ow σ env p) → Ct K H' (Zs σ env' (bar Ex p)) p (.lst ds) → Q (.ref p) H') {p : Addr} (hp : H1 p = none) : Q (.ref p) (upd H1 p (.lst vs)) :=
  k p _ (p1.trans (p1.rel.pst_same (same_upd hp))) (p1.rel.newbar hp) (p1.ownOr hp) ⟨vs, upd_same, RpL.ft (p1.rel.less_new hp) _ _ r⟩
end

section
variable {X : Cx} {io : Nat → Option Addr} {cf : CallF} {a b c e o : Expr} {ca cb cc ci : CE} {ta tb : TE} {pos cpos apos p p2 pos2 : Pos} {rest : List Expr} {x : Str} {lo hi : Option Expr} {cl ch : CO}
abbrev TF1 (X : Cx) (io : Nat → Option Addr) (cf : CallF) (c : CE) : TE := TF X.K io (evE cf c)
theorem s_lst {es : List Expr} {cs : CEs} (h : PA X es (TL1 X io cf cs)) : PE X (.List es pos) (TF1 X io cf (.lst cs)) := by
  refine (pe_lst h).imp fun σ H Q h => ?_
  obtain ⟨Ex, env, d, env', R, ev, k⟩ := h
  simp only [evE] at ev
  obtain ⟨ds, h1, h2, rfl⟩ := disp_inv (f := D.lst) ev
  exact ⟨Ex, env, ds, env', R, h1, fun vs H1 p1 o1 => ⟨by rw [o1.length]; exact lenOk_le h2, fun p hp => tf_new p1 o1 k hp⟩⟩

/-! ### built-in functions -/
theorem boot_step {c : Str} {g f : B1} {r : Option B1} (h : (if x = c then some g else r) = some f) : (x = c ∧ f = g) ∨ r = some f := by
  by_cases e : x = c
  · rw [if_pos e] at h
    exact .inl ⟨e, (Option.some.inj h).symm⟩
  · rw [if_neg e] at h
    exact .inr h
theorem boot_b1 {f : B1} (h : b1Of x = some f) : bootBuiltins x = some (fnOf f) ∧ x ≠ "__name__" ∧ (x == ("__debug__" : Str)) = false ∧ f ≠ .str ∧ f ≠ .dict := by
  unfold b1Of at h
  iterate 12
    rcases boot_step h with ⟨rfl, rfl⟩ | h
    · exact ⟨by decide +kernel, by decide, by decide, by decide, by decide⟩
  cases h
theorem star1 {env : PySem.Env} (h : noStar a = true) : starEach [a] env = (false, eval a env) :: starEach [] env := star_cons h
theorem b1_inv {f : B1} {env env' : Env} {d : D} (h : evE cf (.b1 f ca) env = some (d, env')) : ∃ x p, opd ca env (evE cf ca env) = some (x, env') ∧ rd x env' = some p ∧ b1 f p = some d := by
  simp only [evE] at h
  split at h
  · cases h
  rename_i x e1 h1
  split at h
  · cases h
  rename_i p h2
  split at h
  · rename_i d' h3
    cases h
    exact ⟨x, p, h1, h2, h3⟩
  · cases h
theorem pe_blt {f : B1} {r : List V → Hp → VK → Prop} {t : TA} {es : List Expr} (hf : b1Of x = some f) (hc : CallR X (fnOf f) r) (hg : Gl X x) (hm : X.mg x = none) (ha : PA X (e :: es) t)
    (he : starEach (e :: es) X.env = (false, eval e X.env) :: starEach es X.env) (hpl : (backTo pos (starEach es X.env)).any (·.1) = false) : PE X (.Call (.Name x p) (e :: es) [] pos) (tCB r t) := by
  obtain ⟨h1, h2, h3, _, _⟩ := boot_b1 hf
  cases f <;> first | exact pe_callB hc hg hm h1 ha h2 h3 he hpl | exact pe_callTy hc hg hm h1 ha h2 h3 he hpl
theorem pa_one {te : TE} (hs : noStar e = true) (h : PE X e te) : PA X [e] (tCons te tNil) := pa_cons h pa_nil (star1 hs)
theorem s_b1 {f : B1} (hf : b1Of x = some f) (hcalm : X.calm = true) (hu : X.A.units + 65 < cLine) (hg : Gl X x) (hm : X.mg x = none) (hs : noStar a = true) (ha : PE X a (TO X io cf ca)) : PE X (.Call (.Name x p) [a] [] pos) (TE1 X io cf (.b1 f ca)) := by
  obtain ⟨_, _, _, n1, n2⟩ := boot_b1 hf
  refine (pe_blt hf (b1_ok hcalm hu f n1 n2) hg hm (pa_one hs ha) (star1 hs) rfl).imp fun σ H Q h => ?_
  obtain ⟨Ex, env, d, env', R, ev, k⟩ := h
  obtain ⟨y, q, h1, h2, h3⟩ := b1_inv ev
  exact ⟨Ex, env, y, env', R, h1, fun v H1 p1 o1 => ⟨Zs σ env' Ex, v, q, d, rfl, fun a z => p1.rel.there z, rd_ok p1.rel h2 o1, h3, fun w H2 s r => k w H2 (p1.trans (p1.rel.pst_same s)) r⟩⟩
theorem s_b1F {f : B1} (hf : b1Of x = some f) (hl : f = .list ∨ f = .sorted) (hu : X.A.units + 65 < cLine) (hg : Gl X x) (hm : X.mg x = none) (hs : noStar a = true) (ha : PE X a (TO X io cf ca)) : PE X (.Call (.Name x p) [a] [] pos) (TF1 X io cf (.b1 f ca)) := by
  have hc : CallR X (fnOf f) (rB1F X.K f) := by
    rcases hl with rfl | rfl
    · exact list_ok
    · exact sorted_ok hu
  have hd : ∀ q d, b1 f q = some d → ∃ ds, d = .lst ds := by
    rcases hl with rfl | rfl
    · exact fun q d => listD_lst
    · exact fun q d => sortD_lst
  refine (pe_blt hf hc hg hm (pa_one hs ha) (star1 hs) rfl).imp fun σ H Q h => ?_
  obtain ⟨Ex, env, d, env', R, ev, k⟩ := h
  obtain ⟨y, q, h1, h2, h3⟩ := b1_inv ev
  obtain ⟨ds, rfl⟩ := hd _ _ h3
  exact ⟨Ex, env, y, env', R, h1, fun v H1 p1 o1 => ⟨Zs σ env' Ex, v, q, ds, rfl, rd_ok p1.rel h2 o1, h3, fun w us hw r => tf_new p1 r k hw⟩⟩
theorem pe_two {f : B1} {r : List V → Hp → VK → Prop} {ta tb : TE} (hf : b1Of x = some f) (hc : CallR X (fnOf f) r) (hg : Gl X x) (hm : X.mg x = none) (hs : noStar a = true) (ht : noStar b = true) (ha : PE X a ta) (hb : PE X b tb) :
    PE X (.Call (.Name x p) [a, b] [] pos) (tCB r (tCons ta (tCons tb tNil))) :=
  pe_blt hf hc hg hm (pa_cons ha (pa_one ht hb) (star_cons hs)) (star_cons hs) (star_any fun y hy => by rw [List.mem_singleton] at hy; rw [hy]; exact ht)
theorem two_inv {f : Int → Int → Int} {env env' : Env} {d : D} (h : (match evE cf ca env with
    | some (.int i, e1) => match evE cf cb e1 with
      | some (.int j, e2) => some (D.int (f i j), e2)
      | _ => none
    | _ => none) = some (d, env')) : ∃ i e1 j, evE cf ca env = some (.int i, e1) ∧ evE cf cb e1 = some (.int j, env') ∧ d = .int (f i j) := by
  split at h
  · rename_i i e1 h1
    split at h
    · rename_i j e2 h2
      cases h
      exact ⟨i, e1, j, h1, h2, rfl⟩
    · cases h
  · cases h
theorem s_min2 (hcalm : X.calm = true) (hg : Gl X "min") (hm : X.mg "min" = none) (hs : noStar a = true) (ht : noStar b = true) (ha : PE X a (TE1 X io cf ca)) (hb : PE X b (TE1 X io cf cb)) :
    PE X (.Call (.Name "min" p) [a, b] [] pos) (TE1 X io cf (.min2 ca cb)) := by
  refine (pe_two (f := .min) rfl (call_min2 hcalm) hg hm hs ht ha hb).imp fun σ H Q h => ?_
  obtain ⟨Ex, env, d, env', R, ev, k⟩ := h
  simp only [evE] at ev
  obtain ⟨i, e1, j, h1, h2, rfl⟩ := two_inv (f := fun i j => if j < i then j else i) ev
  exact ⟨Ex, env, _, e1, R, h1, fun v H1 p1 o1 => ⟨Ex, e1, _, env', p1.rel, h2, fun u H2 p2 o2 => ⟨i, j, by simp only [Rp] at o1 o2; rw [o1, o2], k _ H2 (p1.trans p2) rp_int⟩⟩⟩
theorem s_max2 (hcalm : X.calm = true) (hg : Gl X "max") (hm : X.mg "max" = none) (hs : noStar a = true) (ht : noStar b = true) (ha : PE X a (TE1 X io cf ca)) (hb : PE X b (TE1 X io cf cb)) :
    PE X (.Call (.Name "max" p) [a, b] [] pos) (TE1 X io cf (.max2 ca cb)) := by
  refine (pe_two (f := .max) rfl (call_max2 hcalm) hg hm hs ht ha hb).imp fun σ H Q h => ?_
  obtain ⟨Ex, env, d, env', R, ev, k⟩ := h
  simp only [evE] at ev
  obtain ⟨i, e1, j, h1, h2, rfl⟩ := two_inv (f := fun i j => if i < j then j else i) ev
  exact ⟨Ex, env, _, e1, R, h1, fun v H1 p1 o1 => ⟨Ex, e1, _, env', p1.rel, h2, fun u H2 p2 o2 => ⟨i, j, by simp only [Rp] at o1 o2; rw [o1, o2], k _ H2 (p1.trans p2) rp_int⟩⟩⟩

/-! ### items, slices -/
theorem ix_inv {env env' : Env} {d : D} (h : evE cf (.ix ca ci) env = some (d, env')) : ∃ x e1 k p, opd ca env (evE cf ca env) = some (x, e1) ∧ evE cf ci e1 = some (k, env') ∧ rd x env' = some p ∧ ixD p k = some d := by
  simp only [evE] at h
  split at h
  · cases h
  rename_i x e1 h1
  split at h
  · cases h
  rename_i k e2 h2
  split at h
  · cases h
  rename_i p h3
  split at h
  · rename_i d' h4
    cases h
    exact ⟨x, e1, k, p, h1, h2, h3, h4⟩
  · cases h
theorem nosl_ok (h : noSlice b = true) : NoSl b := by
  intro o i
  cases b <;> first | rfl | (simp [noSlice] at h)
theorem s_ix (hu : X.A.units + 65 < cLine) (hs : noSlice b = true) (ha : PE X a (TO X io cf ca)) (hb : PE X b (TE1 X io cf ci)) : PE X (.Subscript a b pos) (TE1 X io cf (.ix ca ci)) := by
  refine PE.by' fun σ H Q h => ?_
  obtain ⟨Ex, env, d, env', R, ev, k⟩ := h
  obtain ⟨y, e1, kk, q, h1, h2, h3, h4⟩ := ix_inv ev
  by_cases hd : ∃ ks ws, q = .dic ks ws
  · obtain ⟨ks, ws, rfl⟩ := hd
    refine ⟨_, pe_dget (by omega) ha hb (nosl_ok hs), Ex, env, y, e1, R, h1, fun v H1 p1 o1 => ⟨Ex, e1, kk, env', p1.rel, h2, fun u H2 p2 o2 => ?_⟩⟩
    simp only [ixD] at h4
    split at h4
    · rename_i ok
      obtain ⟨a, kvs, rfl, r, rfl, rv⟩ := (rd_ok p2.rel h3 (o1.ft p2.zs)).dic
      obtain ⟨key, hk⟩ := keyOk_of ok
      have := keyOf_ok hk
      subst this
      have f := findK_key key kvs ws rv
      rw [h4] at f
      obtain ⟨w, e2, rp⟩ := f
      exact ⟨a, w, rfl, .inl ⟨kvs, key, r, Rb.key (.inl o2), e2.symm⟩, k _ H2 (p1.trans p2) rp⟩
    · cases h4
  · exact ⟨_, pe_ix ix_seqD ha hb (plainIx_ok hs), Ex, env, y, e1, R, h1, fun v H1 p1 o1 => ⟨Ex, e1, kk, env', p1.rel, h2, fun u H2 p2 o2 =>
      ⟨Zs σ env' Ex, q, kk, d, fun ks ws z => hd ⟨ks, ws, z⟩, rd_ok p2.rel h3 (o1.ft p2.zs), .inl o2, h4, fun w r => k w H2 (p1.trans p2) r⟩⟩⟩
def TP (K : PySem.W.Frag) (io : Nat → Option Addr) (ev : Env → Option (Option Int × Env)) : L2.TO := fun σ H Q => ∃ (Ex : Addr → Prop) (env : Env) (o : Option Int) (env' : Env), Rel K io Ex H σ env ∧ ev env = some (o, env') ∧
  ∀ H', Pst K io Ex H σ env H' σ env' → Q o H'
theorem _root_.L2.PO.imp {X : Cx} {e : Option Expr} {t t' : L2.TO} (h : PO X e t) (i : ∀ σ H Q, t' σ H Q → t σ H Q) : PO X e t' := ⟨fun pins s σ H Q I hw => h.run pins s σ H Q I (i σ H Q hw)⟩
theorem s_noPart : PO X none (TP X.K io (evO cf .no)) := by
  refine po_none.imp fun σ H Q h => ?_
  obtain ⟨Ex, env, d, env', R, ev, k⟩ := h
  simp only [evO] at ev
  cases ev
  exact k H (Pst.refl R)
theorem s_part (ha : PE X a (TE1 X io cf ca)) : PO X (some a) (TP X.K io (evO cf (.e ca))) := by
  refine (po_some ha).imp fun σ H Q h => ?_
  obtain ⟨Ex, env, d, env', R, ev, k⟩ := h
  simp only [evO] at ev
  split at ev
  · rename_i i e1 h1
    cases ev
    exact ⟨Ex, env, _, _, R, h1, fun v H1 p1 o1 => ⟨i, by simpa only [Rp] using o1, k H1 p1⟩⟩
  · cases ev
theorem sl_inv {env env' : Env} {d : D} (h : evE cf (.sl ca cl ch) env = some (d, env')) : ∃ x e1 l e2 u p, opd ca env (evE cf ca env) = some (x, e1) ∧ evO cf cl e1 = some (l, e2) ∧ evO cf ch e2 = some (u, env') ∧ rd x env' = some p ∧ slD p l u = some d := by
  simp only [evE] at h
  split at h
  · cases h
  rename_i x e1 h1
  split at h
  · cases h
  rename_i l e2 h2
  split at h
  · cases h
  rename_i u e3 h3
  split at h
  · cases h
  rename_i p h4
  split at h
  · rename_i d' h5
    cases h
    exact ⟨x, e1, l, e2, u, p, h1, h2, h3, h4, h5⟩
  · cases h
theorem s_sl (ha : PE X a (TO X io cf ca)) (hl : PO X lo (TP X.K io (evO cf cl))) (hh : PO X hi (TP X.K io (evO cf ch))) : PE X (.Subscript a (.Slice lo hi none p2) pos) (TE1 X io cf (.sl ca cl ch)) := by
  refine (pe_slice sl_all ha hl hh).imp fun σ H Q h => ?_
  obtain ⟨Ex, env, d, env', R, ev, k⟩ := h
  obtain ⟨y, e1, l, e2, u, q, h1, h2, h3, h4, h5⟩ := sl_inv ev
  exact ⟨Ex, env, y, e1, R, h1, fun v H1 p1 o1 => ⟨Ex, e1, l, e2, p1.rel, h2, fun H2 p2 => ⟨Ex, e2, u, env', p2.rel, h3, fun H3 p3 =>
    ⟨Zs σ env' Ex, q, d, fun a z => p3.rel.there z, rd_ok p3.rel h4 (o1.ft (p2.trans p3).zs), h5, fun w H4 s r => k w H4 (((p1.trans p2).trans p3).trans (p3.rel.pst_same s)) r⟩⟩⟩⟩
theorem s_rev {kk : Nat} {q1 q2 q3 : Pos} (ha : PE X a (TO X io cf ca)) : PE X (.Subscript a (.Slice none none (some (.UnaryOp .USub (.Constant (.int 1) kk q1) q2)) q3) pos) (TE1 X io cf (.rev ca)) := by
  refine (pe_revA ha).imp fun σ H Q h => ?_
  obtain ⟨Ex, env, d, env', R, ev, k⟩ := h
  simp only [evE] at ev
  split at ev
  · cases ev
  rename_i y e1 h1
  split at ev
  · cases ev
  rename_i q h2
  split at ev
  · rename_i d' h3
    cases ev
    exact ⟨Ex, env, y, _, R, h1, fun v H1 p1 o1 => ⟨Zs σ _ Ex, q, d, fun a z => p1.rel.there z, rd_ok p1.rel h2 o1, h3, fun w H2 s r => k w H2 (p1.trans (p1.rel.pst_same s)) r⟩⟩
  · cases ev
theorem rngL_rp {K : PySem.W.Frag} {H : Hp} {Z : Addr → Prop} {lo hi : Int} {n : Nat} (hn : n = (hi - lo).toNat) : RpL K H Z (rngL lo n) (rgV lo hi) := by
  subst hn
  unfold rngL rgV
  generalize List.range (hi - lo).toNat = l
  induction l with
  | nil => exact RpL.nil
  | cons i l ih => exact RpL.cons rp_int ih
theorem s_lstRng (hcalm : X.calm = true) (hg : Gl X "list") (hm : X.mg "list" = none) (hg2 : Gl X "range") (hm2 : X.mg "range" = none) (hs : noStar a = true) (ha : PE X a (TE1 X io cf ca)) :
    PE X (.Call (.Name "list" p) [.Call (.Name "range" p2) [a] [] pos2] [] pos) (TF1 X io cf (.lstRng ca)) := by
  refine (pe_listRg hcalm hg hm (prg_1 hg2 hm2 ha (star1 hs))).imp fun σ H Q h => ?_
  obtain ⟨Ex, env, d, env', R, ev, k⟩ := h
  simp only [evE] at ev
  split at ev
  · rename_i i e1 h1
    split at ev
    · rename_i h2
      cases ev
      simp only [Bool.and_eq_true, decide_eq_true_eq] at h2
      refine ⟨Ex, env, _, _, R, h1, fun v H1 p1 o1 => ?_⟩
      simp only [Rp] at o1
      subst o1
      exact ⟨i, rfl, ⟨by omega, by omega, by omega, by omega, by omega⟩, fun q hq => tf_new p1 (rngL_rp (by omega)) k hq⟩
    · cases ev
  · cases ev
theorem s_trev (hcalm : X.calm = true) (hg : Gl X "tuple") (hm : X.mg "tuple" = none) (hg2 : Gl X "reversed") (hm2 : X.mg "reversed" = none) (hs : noStar a = true) (ha : PE X a (TE1 X io cf ca)) :
    PE X (.Call (.Name "tuple" p) [.Call (.Name "reversed" p2) [a] [] pos2] [] pos) (TE1 X io cf (.trev ca)) := by
  refine (pe_tupRv hcalm hg hm hg2 hm2 ha (star1 hs)).imp fun σ H Q h => ?_
  obtain ⟨Ex, env, d, env', R, ev, k⟩ := h
  simp only [evE] at ev
  split at ev
  · rename_i xs e1 h1
    cases ev
    refine ⟨Ex, env, _, _, R, h1, fun v H1 p1 o1 => ?_⟩
    obtain ⟨a, vs, rfl, f, rl⟩ := o1
    exact ⟨a, vs, rfl, f.sq, fun q o hq po => k _ _ (p1.trans (p1.rel.pst_same (same_upd hq))) (rp_tup hq (fun z => p1.rel.there z hq) rl.reverse po)⟩
  · cases ev
end
end Cv
end

section
/-! CvM: methods, dict displays. -/
set_option autoImplicit false
set_option linter.all false
set_option maxRecDepth 100000
namespace Cv
open PySem PySem.Spec L2

section
variable {X : Cx} {io : Nat → Option Addr} {cf : CallF} {a b c e o : Expr} {ca cb cc ci co : CE} {ta tb : TE} {pos cpos apos p p2 pos2 : Pos} {rest : List Expr} {x : Str}

theorem tl_mk (s : List Nat) : TL.tl ⟨s.toArray⟩ = s := rfl
theorem joinS_joinL (sep : List Nat) : ∀ ss : List (List Nat), joinS sep ss = TL.joinL sep ss
  | [] => rfl
  | [_] => rfl
  | x :: y :: r => by
    show x ++ sep ++ joinS sep (y :: r) = x ++ (sep ++ TL.joinL sep (y :: r))
    rw [joinS_joinL sep (y :: r), List.append_assoc]
theorem join_ok (sep : List Nat) (ss : List (List Nat)) : Txt.join ⟨sep.toArray⟩ (ss.map fun s => (⟨s.toArray⟩ : Str)) = ⟨(joinS sep ss).toArray⟩ := by
  have : TL.tl (Txt.join ⟨sep.toArray⟩ (ss.map fun s => (⟨s.toArray⟩ : Str))) = joinS sep ss := by
    rw [TL.join_eq, TL.tl_join, List.map_map, joinS_joinL]
    congr 1
    induction ss with
    | nil => rfl
    | cons s r ih => rw [List.map_cons, ih]; rfl
  generalize Txt.join ⟨sep.toArray⟩ (ss.map fun s => (⟨s.toArray⟩ : Str)) = t at this
  cases t with
  | mk cps =>
    rw [← this]
theorem s_join (h0 : noCall0 o = true) (hl : (apos.endLine == cpos.line) = true) (hs : noStar a = true) (ho : PE X o (TE1 X io cf co)) (ha : PE X a (TE1 X io cf ca)) :
    PE X (.Call (.Attribute o "join" apos) [a] [] cpos) (TE1 X io cf (.join co ca)) := by
  refine (pe_join ho ha (star1 hs) (base_ok h0) hl).imp fun σ H Q h => ?_
  obtain ⟨Ex, env, d, env', R, ev, k⟩ := h
  simp only [evE] at ev
  split at ev
  · rename_i sep e1 h1
    split at ev
    · rename_i y e2 h2
      split at ev
      · cases ev
      rename_i xs h3
      split at ev
      · cases ev
      rename_i ss h4
      split at ev
      · rename_i h5
        cases ev
        refine ⟨Ex, env, _, e1, R, h1, fun v H1 p1 o1 => ?_⟩
        simp only [Rp] at o1
        subst o1
        refine ⟨⟨_, rfl⟩, Ex, e1, y, _, p1.rel, h2, fun u H2 p2 o2 => ?_⟩
        have hz := lenOk_le h5
        have e5 : ((ss.map fun s => (⟨s.toArray⟩ : Str)).map (·.length)).sum = (ss.map List.length).sum := by
          rw [List.map_map]
          congr 1
        have fin : ∀ q, (SqL X.K H2 q (ss.map fun s => V.str ⟨s.toArray⟩) ∨ SqT X.K H2 q (ss.map fun s => V.str ⟨s.toArray⟩)) → u = .ref q → ∃ a p, ∃ ys : List Str, (V.str ⟨sep.toArray⟩ : V) = .str a ∧ [u] = [.ref p] ∧ (SqL X.K H2 p (ys.map V.str) ∨ SqT X.K H2 p (ys.map V.str)) ∧
            (ys.map (·.length)).sum + ys.length * a.length ≤ 16777216 ∧ Q (.str (Txt.join a ys)) H2 := fun q hq e => by
          subst e
          refine ⟨_, q, ss.map fun s => ⟨s.toArray⟩, rfl, rfl, by rw [List.map_map]; exact hq, ?_, ?_⟩
          · rw [e5, List.length_map]
            rw [sizeLine_eq] at hz
            exact hz
          · rw [join_ok]
            exact k _ H2 (p1.trans p2) rp_str
        cases y with
        | lst ds =>
          cases h3
          simp only [Rp] at o2
          obtain ⟨q, vs, rfl, f, r⟩ := o2
          rw [r.strs h4] at f
          exact fin q (.inl f.sq) rfl
        | tup ds =>
          cases h3
          simp only [Rp] at o2
          obtain ⟨q, vs, rfl, f, r⟩ := o2
          rw [r.strs h4] at f
          exact fin q (.inr f.sq) rfl
        | _ => cases h3
      · cases ev
    · cases ev
  · cases ev
theorem index_inv {env env' : Env} {d : D} (h : evE cf (.index ca cb) env = some (d, env')) : ∃ x e1 p0 k p xs j, opd ca env (evE cf ca env) = some (x, e1) ∧ rd x e1 = some p0 ∧ evE cf cb e1 = some (k, env') ∧ rd x env' = some p ∧ kind p0 = kind p ∧ seqOf p = some xs ∧
    D.fit k 60 = true ∧ D.fitL xs 60 = true ∧ lenOk xs.length = true ∧ findIx k xs = some j ∧ d = .int j := by
  simp only [evE] at h
  split at h
  · cases h
  rename_i x e1 h1
  split at h
  · cases h
  rename_i p0 h2
  split at h
  · cases h
  rename_i k e2 h3
  split at h
  · cases h
  rename_i p h4
  split at h
  · rename_i h5
    split at h
    · cases h
    rename_i xs h6
    split at h
    · rename_i h7
      split at h
      · rename_i j h8
        cases h
        simp only [Bool.and_eq_true] at h7
        exact ⟨x, e1, p0, k, p, xs, j, h1, h2, h3, h4, by simpa using h5, h6, h7.1.1, h7.1.2, h7.2, h8, rfl⟩
      · cases h
    · cases h
  · cases h
/-- a tuple with no names of its own -/
def PlainRef (K : PySem.W.Frag) (x : V) (H : Hp) : Prop := ∃ a, x = .ref a ∧ ((∃ o xs, H a = some (.frz o (.tup xs)) ∧ PlainT o) ∨ ∃ o, K.lookup a = some o ∧ PlainT o)
theorem FzT.plain {K : PySem.W.Frag} {H : Hp} {Z : Addr → Prop} {a : Addr} {vs : List V} (f : FzT K H Z a vs) : PlainRef K (.ref a) H :=
  ⟨a, rfl, f.elim (fun ⟨_, o, h, p⟩ => .inl ⟨o, vs, h, p⟩) fun ⟨o, _, _, h, c, d, _⟩ => .inr ⟨o, h, c, d⟩⟩
theorem pe_bmT {id : String} {name : Str} {r : V → List V → Hp → VK → Prop} {to : TE} {t : TA} {es : List Expr} (slot : Slot "tuple" name id) (hty : typeOf (.builtin id) = pure (.type "method_descriptor")) (hm : MtR X id r) (ho : PE X o to) (ha : PA X (e :: es) t)
    (hbase : attributeBase o name X.env (eval o X.env) = eval o X.env)
    (hfew : ((backTo cpos (starEach (e :: es) X.env)).all (fun x => !x.1) && (backToKw cpos (keywordEach [] X.env)).all (fun x => x.1.isSome)
      && decide ((e :: es).length + ([] : List Keyword).length + (if ([] : List Keyword).isEmpty then 0 else 1) < 30)) = true)
    (hline : (apos.endLine == cpos.line) = true) (hs : starEach (e :: es) X.env = (false, eval e X.env) :: starEach es X.env) (hplain : (backTo cpos (starEach es X.env)).any (·.1) = false) :
    PE X (.Call (.Attribute o name apos) (e :: es) [] cpos) (fun σ H Q => to σ H fun x H1 => PlainRef X.K x H1 ∧ t σ H1 fun xs H2 => r x xs H2 Q) := by
  refine ⟨fun pins s σ H Q I h => wpAny_Call_method_late hbase hfew hline rfl (thn (ho.run pins s σ H _ I h) fun v s1 hv => ?_)⟩
  obtain ⟨x, H1, I1, r1, ⟨a, rfl, ty⟩, q1⟩ := hv
  cases r1
  have hob : ∃ ob, s1.heap.get? a = some ob ∧ PlainT ob := by
    rcases ty with ⟨ob, xs, h1, h2⟩ | ⟨ob, h1, h2⟩
    · exact ⟨ob, (I1.hok a _ h1).1, h2⟩
    · exact ⟨ob, I1.kIn a ob h1, h2⟩
  obtain ⟨ob, h1, h2, h3⟩ := hob
  refine ⟨"tuple", id, F.plainAttrs_tuple, slot, hty, ⟨ob, h1, h2⟩, fun b eb => ?_, ?_⟩
  · cases eb
    exact ⟨ob, h1, h3⟩
  · have hA := ha.run cpos pins s1 σ H1 _ I1 q1
    rw [hs] at hA ⊢
    exact Calls.callWith_builtin (show (false || (backTo cpos (starEach es X.env)).any (·.1)) = false by rw [hplain]; rfl) (Calls.evalArgs_plain (thn hA fun us s2 hq => by
      obtain ⟨vs, H2, I2, r2, q2⟩ := hq
      exact hm pins s2 σ H2 (.ref a) vs _ us Q I2 (rfl : RelV (.ref a) (.ref a)) r2 q2))
theorem s_index (hu : X.A.units + 65 < cLine) (h0 : noCall0 o = true) (hl : (apos.endLine == cpos.line) = true) (hs : noStar a = true) (ho : PE X o (TO X io cf co)) (ha : PE X a (TE1 X io cf ca)) :
    PE X (.Call (.Attribute o "index" apos) [a] [] cpos) (TE1 X io cf (.index co ca)) := by
  refine PE.by' fun σ H Q h => ?_
  obtain ⟨Ex, env, d, env', R, ev, k⟩ := h
  obtain ⟨y, e1, p0, kk, q, xs, j, h1, h2, h3, h4, h5, h6, h7, h8, h9, h10, rfl⟩ := index_inv ev
  cases q with
  | lst ds =>
    cases h6
    have : ∃ ds0, p0 = .lst ds0 := by cases p0 <;> first | exact ⟨_, rfl⟩ | (simp [kind] at h5)
    obtain ⟨ds0, rfl⟩ := this
    refine ⟨_, pe_bm F.plainAttrs_list F.slot_list_index F.type_list_index (index_list hu) ho (pa_one hs ha) (base_ok h0) (few1 hs) hl (star1 hs) rfl, Ex, env, y, e1, R, h1, fun v H1 p1 o1 => ?_⟩
    obtain ⟨l, vs, rfl, hr, _⟩ := (rd_ok p1.rel h2 o1).lst
    refine ⟨.inl ⟨rfl, vs, .inl hr⟩, Ex, e1, kk, env', p1.rel, h3, fun u H2 p2 o2 => ?_⟩
    have rb := rd_ok p2.rel h4 (o1.ft p2.zs)
    obtain ⟨l2, vs2, e2, hr2, _⟩ := rb.lst
    cases e2
    exact ⟨⟨l, rfl, vs2, .inl hr2⟩, Zs σ env' Ex, u, _, kk, xs, j, rfl, rb, .inl o2, rfl, h7, h8, h9, h10, k _ H2 (p1.trans p2) rp_int⟩
  | tup ds =>
    cases h6
    have : ∃ ds0, p0 = .tup ds0 := by cases p0 <;> first | exact ⟨_, rfl⟩ | (simp [kind] at h5)
    obtain ⟨ds0, rfl⟩ := this
    refine ⟨_, pe_bmT F.slot_tuple_index F.type_tuple_index (index_tup hu) ho (pa_one hs ha) (base_ok h0) (few1 hs) hl (star1 hs) rfl, Ex, env, y, e1, R, h1, fun v H1 p1 o1 => ?_⟩
    obtain ⟨l, vs, rfl, hr, _⟩ := (rd_ok p1.rel h2 o1).tup
    refine ⟨hr.plain, Ex, e1, kk, env', p1.rel, h3, fun u H2 p2 o2 => ?_⟩
    have rb := rd_ok p2.rel h4 (o1.ft p2.zs)
    obtain ⟨l2, vs2, e2, hr2, _⟩ := rb.tup
    cases e2
    exact ⟨⟨l, rfl, vs2, hr2.sq⟩, Zs σ env' Ex, u, _, kk, xs, j, rfl, rb, .inl o2, rfl, h7, h8, h9, h10, k _ H2 (p1.trans p2) rp_int⟩
  | _ => cases h6
theorem ixN_seq {n : Nat} {i : Int} {j : Nat} (h : ixN n i = some j) : seqIndex? i n = some j := by
  unfold ixN at h
  unfold seqIndex?
  split at h
  · rename_i h0
    split at h
    · rename_i h1
      cases h
      have n0 : ¬ i < 0 := by omega
      simp only [if_neg n0, h0, h1, decide_true, Bool.and_self, if_true]
    · cases h
  · rename_i h0
    split at h
    · rename_i h1
      cases h
      have n0 : i < 0 := by omega
      have n1 : 0 ≤ i + (n : Int) := by omega
      have n2 : i + (n : Int) < n := by omega
      simp only [if_pos n0, n1, n2, decide_true, Bool.and_self, if_true]
    · cases h

/-! ### methods that change -/
theorem own_slot {K : PySem.W.Frag} {Ex : Addr → Prop} {H : Hp} {σ : St} {env : Env} {i : Nat} (R : Rel K io Ex H σ env) (h : isOwnL env i = true) : ∃ l vs, σ[i]? = some (some (.ref l)) ∧ H l = some (.lst vs) := by
  unfold isOwnL at h
  split at h
  · rename_i ds q
    obtain ⟨l, e, _, vs, hv, _⟩ := R.slot i _ q
    exact ⟨l, vs, e, hv⟩
  · cases h
theorem s_app {i : Nat} (hl : (apos.endLine == cpos.line) = true) (hs : noStar a = true) (hv : PE X (.Name x p) (tVar i)) (ha : PE X a (TE1 X io cf ca)) :
    PE X (.Call (.Attribute (.Name x p) "append" apos) [a] [] cpos) (TE1 X io cf (.app i ca)) := by
  refine (pe_bm F.plainAttrs_list F.slot_list_append F.type_list_append mt_append hv (pa_one hs ha) rfl (few1 hs) hl (star1 hs) rfl).imp fun σ H Q h => ?_
  obtain ⟨Ex, env, d, env', R, ev, k⟩ := h
  simp only [evE] at ev
  split at ev
  · rename_i ol
    split at ev
    · cases ev
    rename_i y e1 h1
    split at ev
    · rename_i ds q
      split at ev
      · rename_i hz
        cases ev
        obtain ⟨l, vs, e, hv⟩ := own_slot R ol
        refine ⟨_, e, .inl ⟨rfl, vs, .inl (.inl hv)⟩, Ex, env, y, e1, R, h1, fun u H1 p1 o1 => ?_⟩
        obtain ⟨l', e', _, vs', hv', r'⟩ := p1.rel.slot i _ q
        rw [e] at e'
        cases e'
        have na : ¬ Zs σ e1 Ex l → False := fun n => n (.inl ⟨i, ⟨_, .inl q⟩, e⟩)
        have zi : Zs σ e1 Ex l := .inl ⟨i, ⟨_, .inl q⟩, e⟩
        have ft : Ft H1 (Zs σ e1 Ex) (upd H1 l (.lst (vs' ++ [u]))) (Zs σ e1 Ex) := fun b w hb n => ⟨by rw [upd_ne (fun z => n (by rw [z]; exact zi))]; exact hb, n⟩
        refine ⟨l, vs', u, rfl, rfl, hv', by rw [r'.length, ← big_eq]; simpa using hz, k _ _ (p1.trans (p1.rel.poke q (.inl ⟨rfl, rfl⟩) e (fun b w hb n => by rw [upd_ne n]; exact hb) ⟨_, upd_same, (RpL.ft ft _ _ r').append (RpL.cons (Rp.ft ft _ _ o1) RpL.nil)⟩)) rp_non⟩
      · cases ev
    · cases ev
  · cases ev
theorem s_pop {i : Nat} (hl : (apos.endLine == cpos.line) = true) (hv : PE X (.Name x p) (tVar i)) : PE X (.Call (.Attribute (.Name x p) "pop" apos) [] [] cpos) (TE1 X io cf (.pop i)) := by
  refine (pe_bm0 F.plainAttrs_list F.slot_list_pop F.type_list_pop mt_pop hv rfl hl).imp fun σ H Q h => ?_
  obtain ⟨Ex, env, d, env', R, ev, k⟩ := h
  simp only [evE] at ev
  split at ev
  · rename_i ds q
    split at ev
    · rename_i y hy
      cases ev
      obtain ⟨l, e, _, vs, hv, r⟩ := R.slot i _ q
      have zi : Zs σ env Ex l := .inl ⟨i, ⟨_, .inl q⟩, e⟩
      have ft : ∀ o, Ft H (Zs σ env Ex) (upd H l o) (Zs σ env Ex) := fun o b w hb n => ⟨by rw [upd_ne (fun z => n (by rw [z]; exact zi))]; exact hb, n⟩
      obtain ⟨v, hv2, rv⟩ := r.get hy
      have ps := R.poke q (d' := .lst ds.dropLast) (H' := upd H l (.lst vs.dropLast)) (.inl ⟨rfl, rfl⟩) e (fun b w hb n => by rw [upd_ne n]; exact hb) ⟨_, upd_same, RpL.ft (ft _) _ _ r.dropLast⟩
      exact ⟨_, e, .inl ⟨rfl, vs, .inl (.inl hv)⟩, l, vs, v, rfl, rfl, hv, by rw [r.length]; exact hv2, k _ _ ps (Rp.ft ps.zs _ _ rv)⟩
    · cases ev
  · cases ev
theorem s_popAt {i : Nat} (hl : (apos.endLine == cpos.line) = true) (hs : noStar a = true) (hv : PE X (.Name x p) (tVar i)) (ha : PE X a (TE1 X io cf ca)) :
    PE X (.Call (.Attribute (.Name x p) "pop" apos) [a] [] cpos) (TE1 X io cf (.popAt i ca)) := by
  refine (pe_bm F.plainAttrs_list F.slot_list_pop F.type_list_pop mt_popAt hv (pa_one hs ha) rfl (few1 hs) hl (star1 hs) rfl).imp fun σ H Q h => ?_
  obtain ⟨Ex, env, d, env', R, ev, k⟩ := h
  simp only [evE] at ev
  split at ev
  · rename_i ol
    split at ev
    · rename_i kk e1 h1
      split at ev
      · rename_i ds q
        split at ev
        · cases ev
        rename_i j hj
        split at ev
        · rename_i y hy
          cases ev
          split at hj
          · rename_i hrg
            obtain ⟨l, vs, e, hv⟩ := own_slot R ol
            refine ⟨_, e, .inl ⟨rfl, vs, .inl (.inl hv)⟩, Ex, env, _, e1, R, h1, fun u H1 p1 o1 => ?_⟩
            simp only [Rp] at o1
            subst o1
            obtain ⟨l', e', _, vs', hv', r⟩ := p1.rel.slot i _ q
            rw [e] at e'
            cases e'
            have zi : Zs σ e1 Ex l := .inl ⟨i, ⟨_, .inl q⟩, e⟩
            have ft : ∀ o, Ft H1 (Zs σ e1 Ex) (upd H1 l o) (Zs σ e1 Ex) := fun o b w hb n => ⟨by rw [upd_ne (fun z => n (by rw [z]; exact zi))]; exact hb, n⟩
            obtain ⟨v, hv2, rv⟩ := r.get hy
            have ps := p1.rel.poke q (d' := .lst (ds.eraseIdx j)) (H' := upd H1 l (.lst (vs'.eraseIdx j))) (.inl ⟨rfl, rfl⟩) e (fun b w hb n => by rw [upd_ne n]; exact hb) ⟨_, upd_same, RpL.ft (ft _) _ _ (r.eraseIdx j)⟩
            have hr2 : (-4611686018427387904 : Int) ≤ kk ∧ kk < 4611686018427387904 := by
              unfold rngOk at hrg
              simp only [Bool.and_eq_true, decide_eq_true_eq] at hrg
              exact hrg
            exact ⟨l, vs', kk, j, v, rfl, rfl, hv', by omega, by omega, by rw [r.length]; exact ixN_seq hj, hv2, k _ _ (p1.trans ps) (Rp.ft ps.zs _ _ rv)⟩
          · cases hj
        · cases ev
      · cases ev
    · cases ev
  · cases ev
end
end Cv
end

section
/-! CvN: dict displays; dicts changed. -/
set_option autoImplicit false
set_option linter.all false
set_option maxRecDepth 100000
namespace Cv
open PySem PySem.Spec L2

section
variable {K : PySem.W.Frag} {H : Hp} {Z : Addr → Prop}
theorem any_keys (k : Key) : ∀ kvs : List (Key × V), (kvs.map fun p => keyD p.1).any (fun k' => D.eqv k' (keyD k)) = kvs.any fun kv => decide (kv.1 = k)
  | [] => rfl
  | p :: r => by rw [List.map_cons, List.any_cons, List.any_cons, any_keys k r, eqv_keyD]
theorem putD_ok (k : Key) {d : D} {v : V} (hv : Rp K H Z d v) (kvs : List (Key × V)) (ws : List D) (r : RpL K H Z ws (kvs.map (·.2))) :
    (putD (keyD k) d (kvs.map fun p => keyD p.1) ws).1 = (L2.putK kvs k v).map (fun p => keyD p.1) ∧ RpL K H Z (putD (keyD k) d (kvs.map fun p => keyD p.1) ws).2 ((L2.putK kvs k v).map (·.2)) := by
  unfold putD L2.putK
  rw [any_keys]
  by_cases h : (kvs.any fun kv => decide (kv.1 = k)) = true
  · rw [if_pos h, if_pos h]
    refine ⟨?_, ?_⟩
    · show kvs.map _ = _
      rw [List.map_map]
      refine List.map_congr_left fun p _ => ?_
      show keyD p.1 = keyD (if p.1 = k then (p.1, v) else p).1
      split <;> rfl
    · show RpL K H Z (repV (keyD k) d (kvs.map fun p => keyD p.1) ws) _
      rw [List.map_map]
      clear h
      induction kvs generalizing ws with
      | nil =>
        cases ws with
        | nil => exact RpL.nil
        | cons w ws => have := r.length; simp at this
      | cons p kvs ih =>
        cases ws with
        | nil => have := r.length; simp at this
        | cons w ws =>
          rw [List.map_cons] at r
          obtain ⟨u, rr, e1, r1, r2⟩ := r.inv
          cases e1
          rw [List.map_cons, List.map_cons]
          show RpL K H Z ((if D.eqv (keyD p.1) (keyD k) then d else w) :: repV (keyD k) d (kvs.map fun p => keyD p.1) ws) _
          refine RpL.cons ?_ (ih ws r2)
          rw [eqv_keyD]
          show Rp K H Z _ (if p.1 = k then (p.1, v) else p).2
          by_cases e : p.1 = k
          · rw [if_pos e, if_pos (by simpa using e)]; exact hv
          · rw [if_neg e, if_neg (by simpa using e)]; exact r1
  · rw [if_neg h, if_neg h]
    refine ⟨?_, ?_⟩
    · show _ ++ _ = _
      rw [List.map_append]
      rfl
    · show RpL K H Z (ws ++ [d]) _
      rw [List.map_append]
      exact r.append (RpL.cons hv RpL.nil)
theorem mkD_ok : ∀ (more : List (Key × V)) (bs : List D) (kvs : List (Key × V)) (ws : List D), RpL K H Z bs (more.map (·.2)) → RpL K H Z ws (kvs.map (·.2)) →
    (mkD (more.map fun p => keyD p.1) bs (kvs.map fun p => keyD p.1) ws).1 = (L2.mergeK kvs more).map (fun p => keyD p.1) ∧ RpL K H Z (mkD (more.map fun p => keyD p.1) bs (kvs.map fun p => keyD p.1) ws).2 ((L2.mergeK kvs more).map (·.2))
  | [], bs, kvs, ws, h, r => by
    show (mkD [] bs _ ws).1 = _ ∧ _
    simp only [List.map_nil, mkD]
    exact ⟨rfl, r⟩
  | p :: more, bs, kvs, ws, h, r => by
    rw [List.map_cons] at h
    cases bs with
    | nil => have := h.length; simp at this
    | cons b bs =>
      obtain ⟨u, rr, e1, r1, r2⟩ := h.inv
      cases e1
      have hp := putD_ok p.1 r1 kvs ws r
      have ih := mkD_ok more bs (L2.putK kvs p.1 p.2) (putD (keyD p.1) b (kvs.map fun p => keyD p.1) ws).2 r2 hp.2
      rw [List.map_cons]
      simp only [mkD]
      rw [hp.1]
      exact ih
end

section
variable {X : Cx} {io : Nat → Option Addr} {cf : CallF} {a b c e o : Expr} {ca cb cc ci co : CE} {pos : Pos}
def TPs (K : PySem.W.Frag) (io : Nat → Option Addr) (ev : Env → Option (List D × List D × Env)) : St → Hp → (List (V × V) → Hp → Prop) → Prop := fun σ H Q =>
  ∃ (Ex : Addr → Prop) (env : Env) (as bs : List D) (env' : Env), Rel K io Ex H σ env ∧ ev env = some (as, bs, env') ∧
    ∀ ps H', Pst K io Ex H σ env H' σ env' → RpL K H' (Zs σ env' Ex) as (ps.map (·.1)) → RpL K H' (Zs σ env' Ex) bs (ps.map (·.2)) → Q ps H'
structure PPsOk (X : Cx) (io : Nat → Option Addr) (cf : CallF) (pos : Pos) (ks : List (Option Expr)) (vs : List Expr) (cp : CP) (trs : List (TE × TE)) : Prop where
  pps : PPs X pos ks vs trs
  some : ks.all (·.isSome) = true
  len : ks.length = vs.length
  ev : ∀ env as bs env', evP cf cp env = Option.some (as, bs, env') → as.length = ks.length
  run : ∀ σ H Q, TPs X.K io (evP cf cp) σ H Q → tPairs trs σ H Q
theorem s_pnil : PPsOk X io cf pos [] [] .nil [] := by
  refine ⟨pps_nil, rfl, rfl, fun env as bs env' h => ?_, fun σ H Q h => ?_⟩
  · simp only [evP] at h
    cases h
    rfl
  · obtain ⟨Ex, env, as, bs, env', R, ev, k⟩ := h
    simp only [evP] at ev
    cases ev
    exact k [] H (Pst.refl R) RpL.nil RpL.nil
theorem pcons_inv {cp : CP} {env env' : Env} {as bs : List D} (h : evP cf (.cons ca cb cp) env = some (as, bs, env')) :
    ∃ x e1 y e2 as' bs', evE cf ca env = some (x, e1) ∧ evE cf cb e1 = some (y, e2) ∧ evP cf cp e2 = some (as', bs', env') ∧ as = x :: as' ∧ bs = y :: bs' := by
  simp only [evP] at h
  split at h
  · cases h
  rename_i x e1 h1
  split at h
  · cases h
  rename_i y e2 h2
  split at h
  · cases h
  rename_i as' bs' e3 h3
  cases h
  exact ⟨x, e1, y, e2, as', bs', h1, h2, h3, rfl, rfl⟩
theorem s_pcons {ks : List (Option Expr)} {vs : List Expr} {cp : CP} {trs : List (TE × TE)} (ha : PE X a (TE1 X io cf ca)) (hb : PE X b (TE1 X io cf cb)) (hr : PPsOk X io cf pos ks vs cp trs) :
    PPsOk X io cf pos (some a :: ks) (b :: vs) (.cons ca cb cp) ((TE1 X io cf ca, TE1 X io cf cb) :: trs) := by
  refine ⟨pps_cons ha hb hr.pps, by rw [List.all_cons, hr.some]; rfl, by rw [List.length_cons, List.length_cons, hr.len], fun env as bs env' h => ?_, fun σ H Q h => ?_⟩
  · obtain ⟨x, e1, y, e2, as', bs', _, _, h3, rfl, _⟩ := pcons_inv h
    rw [List.length_cons, List.length_cons, hr.ev _ _ _ _ h3]
  · obtain ⟨Ex, env, as, bs, env', R, ev, k⟩ := h
    obtain ⟨x, e1, y, e2, as', bs', h1, h2, h3, rfl, rfl⟩ := pcons_inv ev
    exact ⟨Ex, env, x, e1, R, h1, fun v H1 p1 o1 => ⟨Ex, e1, y, e2, p1.rel, h2, fun u H2 p2 o2 => hr.run _ _ _ ⟨Ex, e2, as', bs', env', p2.rel, h3, fun ps H3 p3 r1 r2 =>
      k _ H3 ((p1.trans p2).trans p3) (RpL.cons (Rp.ft (p2.trans p3).zs _ _ o1) r1) (RpL.cons (Rp.ft p3.zs _ _ o2) r2)⟩⟩⟩
theorem keys_of {K : PySem.W.Frag} {H : Hp} {Z : Addr → Prop} : ∀ {as : List D} {ps : List (V × V)}, RpL K H Z as (ps.map (·.1)) → as.all keyOk = true → ∃ kvs : List (Key × V), ps = kvs.map (fun kv => (kV kv.1, kv.2)) ∧ as = kvs.map fun p => keyD p.1
  | [], ps, r, _ => by
    have := r.inv0
    cases ps with
    | nil => exact ⟨[], rfl, rfl⟩
    | cons _ _ => cases this
  | d :: as, ps, r, h => by
    obtain ⟨u, rr, e1, r1, r2⟩ := r.inv
    cases ps with
    | nil => cases e1
    | cons p ps =>
      rw [List.map_cons] at e1
      cases e1
      rw [List.all_cons, Bool.and_eq_true] at h
      obtain ⟨kvs, e2, e3⟩ := keys_of r2 h.2
      obtain ⟨k, hk⟩ := keyOk_of h.1
      have := keyOf_ok hk
      subst this
      exact ⟨(k, p.2) :: kvs, by rw [List.map_cons, ← e2, ← Rb.key (.inl r1)], by rw [List.map_cons, e3]⟩
theorem s_dct0 : PE X (.Dict [] [] pos) (TF1 X io cf (.dct .nil)) := by
  refine pe_dnewK.imp fun σ H Q h => ?_
  obtain ⟨Ex, env, d, env', R, ev, k⟩ := h
  simp only [evE, evP] at ev
  have e : d = .dic [] [] ∧ env' = env := by
    have : some (D.dic [] [], env) = some (d, env') := ev
    cases this
    exact ⟨rfl, rfl⟩
  obtain ⟨rfl, rfl⟩ := e
  exact fun p hp => k p _ (R.pst_same (same_upd hp)) (R.newbar hp) (.inl hp) ⟨[], upd_same, rfl, RpL.nil⟩
theorem s_dct {ks : List (Option Expr)} {vs : List Expr} {cp : CP} {trs : List (TE × TE)} (h0 : ks ≠ []) (hr : PPsOk X io cf pos ks vs cp trs) : PE X (.Dict ks vs pos) (TF1 X io cf (.dct cp)) := by
  refine PE.by' fun σ H Q h => ?_
  obtain ⟨Ex, env, d, env', R, ev, k⟩ := h
  simp only [evE] at ev
  split at ev
  · cases ev
  rename_i as bs e1 h1
  split at ev
  · rename_i hk
    cases ev
    rw [Bool.and_eq_true] at hk
    have hl := hr.ev _ _ _ _ h1
    have h15 : as.length ≤ 15 := Nat.le_of_ble_eq_true hk.1
    refine ⟨_, pe_disp hr.pps hr.some hr.len h0 (by omega), fun q hq => hr.run _ _ _ ⟨bar Ex q, env, as, bs, _, R.newbar hq, h1, fun ps H2 p2 r1 r2 => ?_⟩⟩
    have hq2 : H2 q = some (.dK []) := (p2.ft q (.dK []) upd_same fun ⟨i, o⟩ => R.fresh hq (.inl ⟨i, o⟩)).1
    obtain ⟨kvs, rfl, rfl⟩ := keys_of r1 hk.2
    refine ⟨hq2, kvs, rfl, by rw [List.length_map] at h15; exact h15, ?_⟩
    obtain ⟨p3, R3⟩ := Pst.unbar (H3 := upd H2 q (.dK (mergeK [] kvs))) R (.inl hq) p2 (fun b u e => same_upd hq b u e) (fun b u e n => by rw [upd_ne n]; exact e) (by rw [upd_same]; simp)
    rw [List.map_map] at r2
    have hm := mkD_ok kvs bs [] [] r2 RpL.nil
    refine k q _ p3 R3 (.inl hq) ⟨_, upd_same, hm.1, RpL.ft (fun b u e n => ⟨by rw [upd_ne fun z => n (.inr (.inr z))]; exact e, n⟩) _ _ hm.2⟩
  · cases ev
end
end Cv
end

section
/-! CvO: what is walked. -/
set_option autoImplicit false
set_option linter.all false
set_option maxRecDepth 100000
namespace Cv
open PySem PySem.Spec L2

/-- the iterator gives the items, as long as what stood when it came may not change -/
def WOk (K : PySem.W.Frag) (H1 : Hp) (Z1 Ex1 : Addr → Prop) (ds : List D) (J : It) : Prop := ∃ (G : Hp → Prop) (Y : Nat → Hp → V → Hp → Prop), Walk J ds.length G Y ∧
  ∀ H2 Z2, Ft H1 Z1 H2 Z2 → (∀ a o, Ex1 a → H1 a = some o → H2 a = some o) → (∀ a, Z2 a → H2 a ≠ none) → G H2 ∧ ∀ i x H3, i < ds.length → Y i H2 x H3 → Same H2 H3 ∧ ∀ d, ds[i]? = some d → Rp K H3 Z2 d x
section
variable {K : PySem.W.Frag} {H1 : Hp} {Z1 Ex1 : Addr → Prop} {ds es : List D} {vs us : List V} {a b : Addr}
theorem wok_l (h : ∀ H2 Z2, Ft H1 Z1 H2 Z2 → (∀ a o, Ex1 a → H1 a = some o → H2 a = some o) → SqL K H2 a vs) (r : RpL K H1 Z1 ds vs) : WOk K H1 Z1 Ex1 ds (Itl K a) := by
  refine ⟨_, _, by rw [← r.length]; exact walk_list, fun H2 Z2 f k z => ⟨h H2 Z2 f k, fun i x H3 hi y => ?_⟩⟩
  obtain ⟨rfl, y⟩ := y
  refine ⟨Same.refl _, fun d e => ?_⟩
  obtain ⟨v, e1, r1⟩ := r.get e
  rw [y] at e1
  cases e1
  exact Rp.ft f _ _ r1
theorem wok_t (h : ∀ H2 Z2, Ft H1 Z1 H2 Z2 → (∀ a o, Ex1 a → H1 a = some o → H2 a = some o) → SqT K H2 a vs) (r : RpL K H1 Z1 ds vs) : WOk K H1 Z1 Ex1 ds (Itt K a) := by
  refine ⟨_, _, by rw [← r.length]; exact walk_tup, fun H2 Z2 f k z => ⟨h H2 Z2 f k, fun i x H3 hi y => ?_⟩⟩
  obtain ⟨rfl, y⟩ := y
  refine ⟨Same.refl _, fun d e => ?_⟩
  obtain ⟨v, e1, r1⟩ := r.get e
  rw [y] at e1
  cases e1
  exact Rp.ft f _ _ r1
theorem rngL_get {lo : Int} {n i : Nat} {d : D} (h : (rngL lo n)[i]? = some d) : d = .int (lo + (i : Nat)) := by
  unfold rngL at h
  rw [List.getElem?_map] at h
  cases q : (List.range n)[i]? with
  | none => rw [q] at h; cases h
  | some j =>
    rw [q] at h
    have : j = i := by
      have := List.getElem?_eq_some_iff.mp q
      obtain ⟨_, e⟩ := this
      rw [List.getElem_range] at e
      exact e.symm
    subst this
    cases h
    rfl
theorem rngL_length (lo : Int) (n : Nat) : (rngL lo n).length = n := by unfold rngL; rw [List.length_map, List.length_range]
theorem wok_range {lo : Int} {n : Nat} : WOk K H1 Z1 Ex1 (rngL lo n) (Itr lo n) := by
  refine ⟨_, _, by rw [rngL_length]; exact walk_range, fun H2 Z2 f k z => ⟨trivial, fun i x H3 hi y => ?_⟩⟩
  obtain ⟨rfl, rfl⟩ := y
  refine ⟨Same.refl _, fun d e => ?_⟩
  rw [rngL_get e]
  exact rp_int
theorem wok_str {s : List Nat} : WOk K H1 Z1 Ex1 (s.map fun c => .str [c]) (Its ⟨s.toArray⟩) := by
  refine ⟨_, _, by rw [List.length_map]; exact walk_str (z := ⟨s.toArray⟩), fun H2 Z2 f k z => ⟨trivial, fun i x H3 hi y => ?_⟩⟩
  obtain ⟨rfl, c, hc, rfl⟩ := y
  refine ⟨Same.refl _, fun d e => ?_⟩
  rw [List.getElem?_map] at e
  have hc' : s[i]? = some c := by simpa using hc
  rw [hc'] at e
  cases e
  exact rp_str
end

/-- behind a walk, with more barred (B) -/
def Fin (K : PySem.W.Frag) (io : Nat → Option Addr) (it : CI) (Ex : Addr → Prop) (H : Hp) (σ : St) (env : Env) (Ex1 : Addr → Prop) (H1 : Hp) (env1 : Env) : Prop :=
  ∀ (B : Addr → Prop) (H2 : Hp) (σ2 : St) (env2 env3 : Env), (∀ a, Ex1 a → ¬ B a) → Rel K io (fun a => Ex1 a ∨ B a) H2 σ2 env2 → Ft H1 (Ow σ env1) H2 (Ow σ2 env2) →
    (∀ (i : Nat), env2[i]? = some .lent → env1[i]? = some .lent ∧ σ2[i]? = σ[i]?) → Ft H1 (Zs σ env1 Ex1) H2 (Zs σ2 env2 fun a => Ex1 a ∨ B a) → unlend it env env2 = some env3 →
    Rel K io (fun a => Ex a ∨ B a) H2 σ2 env3 ∧ Ft H (Ow σ env) H2 (Ow σ2 env3) ∧ (∀ (i : Nat), env3[i]? = some .lent → env[i]? = some .lent ∧ σ2[i]? = σ[i]?) ∧
      ∀ a, Zs σ2 env3 (fun a => Ex a ∨ B a) a → Zs σ2 env2 (fun a => Ex1 a ∨ B a) a
def ItP (K : PySem.W.Frag) (io : Nat → Option Addr) (it : CI) (Ex : Addr → Prop) (H : Hp) (σ : St) (env : Env) (ds : List D) (env1 : Env) (J : It) (H1 : Hp) : Prop :=
  ∃ Ex1 : Addr → Prop, Rel K io Ex1 H1 σ env1 ∧ WOk K H1 (Zs σ env1 Ex1) Ex1 ds J ∧ (∀ a, Ex a → Ex1 a) ∧ (∀ p, H1 p = none ∨ Ow σ env1 p → H p = none ∨ Ow σ env p) ∧ Fin K io it Ex H σ env Ex1 H1 env1
def TIo (K : PySem.W.Frag) (io : Nat → Option Addr) (it : CI) (ev : Env → Option (List D × Env)) : TI := fun σ H R => ∃ (Ex : Addr → Prop) (env : Env) (ds : List D) (env1 : Env), Rel K io Ex H σ env ∧ ev env = some (ds, env1) ∧
  ∀ J H1, ItP K io it Ex H σ env ds env1 J H1 → R J H1
section
variable {K : PySem.W.Frag} {io : Nat → Option Addr} {it : CI} {Ex : Addr → Prop} {H H1 : Hp} {σ : St} {env env1 : Env} {ds : List D} {J : It}
theorem ItP.plain (p : Pst K io Ex H σ env H1 σ env1) (w : WOk K H1 (Zs σ env1 Ex) Ex ds J) (h : ∀ env2, unlend it env env2 = some env2) : ItP K io it Ex H σ env ds env1 J H1 := by
  refine ⟨Ex, p.rel, w, fun _ x => x, fun q hq => p.new hq, fun B H2 σ2 env2 env3 hB R f l fz e => ?_⟩
  rw [h env2] at e
  cases e
  exact ⟨R, p.ft.trans f, fun i q => ⟨(p.lent i (l i q).1).1, (l i q).2⟩, fun _ z => z⟩
theorem ItP.lend {i : Nat} (R : Rel K io Ex H σ env) (h : env[i]? = some (.own (.lst ds))) : ∃ a, σ[i]? = some (some (.ref a)) ∧ (∃ vs, H a = some (.lst vs)) ∧ ItP K io (.own i) Ex H σ env ds (env.set i .lent) (Itl K a) H := by
  obtain ⟨a, e, n, vs, hv, r⟩ := R.slot i _ h
  have off : ∀ (j : Nat) (s : Sl) (v : Env), j ≠ i → (v.set i s)[j]? = v[j]? := fun j s v hj => set_off hj
  have at' : (env.set i .lent)[i]? = some .lent := set_at h
  have ai : Own σ env i a := ⟨⟨_, .inl h⟩, e⟩
  have ow1 : ∀ b, Ow σ (env.set i .lent) b → Ow σ env b ∧ b ≠ a := fun b ⟨j, o⟩ => by
    obtain ⟨⟨d, q⟩, e'⟩ := o
    by_cases hj : j = i
    · subst hj
      rw [at'] at q
      rcases q with q | q <;> cases q
    · rw [off j _ _ hj] at q
      exact ⟨⟨j, ⟨d, q⟩, e'⟩, fun z => hj (by subst z; exact R.inj j i b ⟨⟨d, q⟩, e'⟩ ai)⟩
  have f : Ft H (Zs σ env Ex) H (Zs σ (env.set i .lent) (bar Ex a)) := Ft.less fun b z => z.elim (fun z => .inl (ow1 b z).1) fun z => z.elim .inr fun z => by rw [z]; exact .inl ⟨i, ai⟩
  have R1 : Rel K io (bar Ex a) H σ (env.set i .lent) := by
    refine R.alter i (by rw [List.length_set]; exact R.len) (fun j hj => off j _ _ hj) (fun _ _ => rfl) f (fun j b hj o => ⟨fun o q => q, fun z => z.elim (R.ow o).1 fun z => hj (by subst z; exact R.inj j i b o ai)⟩)
      (fun _ _ _ _ _ x => .inl x) (fun b x => x.elim (R.ext b) fun z => by rw [z, hv]; simp) (fun s q => ?_) fun b o => ?_
    · rw [at'] at q
      cases q
      exact ⟨a, e, .inr rfl⟩
    · obtain ⟨⟨d', q⟩, _⟩ := o
      rw [at'] at q
      rcases q with q | q <;> cases q
  refine ⟨a, e, ⟨vs, hv⟩, bar Ex a, R1, wok_l (fun H2 Z2 _ k => .inl (.inl (k a _ (.inr rfl) hv))) (RpL.ft f _ _ r), fun _ x => .inl x, fun p hp => hp.elim .inl fun z => .inr (ow1 p z).1, fun B H2 σ2 env2 env3 hB R2 g l gz q => ?_⟩
  simp only [unlend, h] at q
  split at q
  · rename_i hl
    cases q
    have e2 : σ2[i]? = some (some (.ref a)) := (l i hl).2.trans e
    have at2 : (env2.set i (.own (.lst ds)))[i]? = some (.own (.lst ds)) := set_at hl
    have nB : ¬ (Ex a ∨ B a) := fun z => z.elim n (hB a (.inr rfl))
    have zs : ∀ b, Zs σ2 (env2.set i (.own (.lst ds))) (fun a => Ex a ∨ B a) b → Zs σ2 env2 (fun b => bar Ex a b ∨ B b) b := fun b z => by
      rcases z with ⟨j, ⟨⟨d, q⟩, e'⟩⟩ | z
      · by_cases hj : j = i
        · subst hj
          rw [e2] at e'
          cases e'
          exact .inr (.inl (.inr rfl))
        · rw [off j _ _ hj] at q
          exact .inl ⟨j, ⟨d, q⟩, e'⟩
      · exact .inr (z.imp .inl _root_.id)
    have na : ¬ Ow σ (env.set i .lent) a := fun z => (ow1 a z).2 rfl
    have ha : H2 a = some (.lst vs) := (g a _ hv na).1
    refine ⟨R2.alter i (by rw [List.length_set]; exact R2.len) (fun j hj => off j _ _ hj) (fun _ _ => rfl) (Ft.less zs) (fun j b hj o => ⟨fun o q => q, fun z => (R2.ow o).1 (z.imp .inl _root_.id)⟩) (fun j b hj l2 e3 x => ?_)
      (fun b x => R2.ext b (x.imp .inl _root_.id)) (fun s q => ?_) fun b o j hj o' => ?_, fun b u hb nb => ?_, fun j q => ?_, zs⟩
    · obtain ⟨l3, l4⟩ := l j l2
      rw [off j _ _ hj] at l3
      obtain ⟨c, e4, x4⟩ := R.slot j _ l3
      rw [l4, e4] at e3
      cases e3
      exact .inl x4
    · rw [at2] at q
      cases q
      exact ⟨a, e2, nB, vs, ha, RpL.ft (Ft.less zs) _ _ (RpL.ft gz _ _ (RpL.ft f _ _ r))⟩
    · obtain ⟨_, e'⟩ := o
      rw [e2] at e'
      cases e'
      exact (R2.ow o').1 (.inl (.inr rfl))
    · have n1 : ¬ Ow σ (env.set i .lent) b := fun z => nb (ow1 b z).1
      obtain ⟨z1, z2⟩ := g b u hb n1
      refine ⟨z1, fun z => ?_⟩
      obtain ⟨j, ⟨⟨d, q⟩, e'⟩⟩ := z
      by_cases hj : j = i
      · subst hj
        rw [e2] at e'
        cases e'
        exact nb ⟨_, ai⟩
      · rw [off j _ _ hj] at q
        exact z2 ⟨j, ⟨d, q⟩, e'⟩
    · by_cases hj : j = i
      · subst hj
        rw [at2] at q
        cases q
      · rw [off j _ _ hj] at q
        obtain ⟨l3, l4⟩ := l j q
        rw [off j _ _ hj] at l3
        exact ⟨l3, l4⟩
  · cases q
end
end Cv
end

section
/-! CvP: the iterators' rules. -/
set_option autoImplicit false
set_option linter.all false
set_option maxRecDepth 100000
namespace Cv
open PySem PySem.Spec L2

section
variable {ci' : CI} {X : Cx} {io : Nat → Option Addr} {cf : CallF} {a b c e o tg : Expr} {ca cb cc ci co : CE} {pos p tpos : Pos} {x : Str} {elts : List Expr} {kk : Nat}
theorem _root_.L2.PI.by' {X : Cx} {tg iter : Expr} {t' : L2.TI} (h : ∀ σ H R, t' σ H R → ∃ t, PI X tg iter t ∧ t σ H R) : PI X tg iter t' := ⟨fun pins s σ H R I hw => by
  obtain ⟨t, p, q⟩ := h σ H R hw
  exact p.run pins s σ H R I q⟩
theorem _root_.L2.PI.imp {X : Cx} {tg iter : Expr} {t t' : L2.TI} (h : PI X tg iter t) (i : ∀ σ H R, t' σ H R → t σ H R) : PI X tg iter t' := ⟨fun pins s σ H R I hw => h.run pins s σ H R I (i σ H R hw)⟩
def TIp (K : PySem.W.Frag) (io : Nat → Option Addr) (ev : Env → Option (List D × Env)) : L2.TI := fun σ H R => ∃ (Ex : Addr → Prop) (env : Env) (ds : List D) (env1 : Env), Rel K io Ex H σ env ∧ ev env = some (ds, env1) ∧
  ∀ J H1, Pst K io Ex H σ env H1 σ env1 → WOk K H1 (Zs σ env1 Ex) (fun _ => False) ds J → R J H1
abbrev TI2 (X : Cx) (io : Nat → Option Addr) (cf : CallF) (c : CI) : L2.TI := TIp X.K io (evI cf c)
abbrev TI1 (X : Cx) (io : Nat → Option Addr) (cf : CallF) (c : CI) : L2.TI := TIo X.K io c (evI cf c)
/-- what a value is walked by -/
theorem walk_rp {K : PySem.W.Frag} {H : Hp} {Z Ex1 : Addr → Prop} {d : D} {xs : List D} {v : V} (h : walkOf d = some xs) (r : Rp K H Z d v) :
    (∃ a vs, v = .ref a ∧ SqL K H a vs ∧ WOk K H Z Ex1 xs (Itl K a)) ∨ (∃ a vs, v = .ref a ∧ SqT K H a vs ∧ WOk K H Z Ex1 xs (Itt K a)) ∨ ∃ s, v = .str s ∧ WOk K H Z Ex1 xs (Its s) := by
  cases d with
  | lst ds =>
    cases h
    simp only [Rp] at r
    obtain ⟨a, vs, rfl, f, r⟩ := r
    exact .inl ⟨a, vs, rfl, f.sq, wok_l (fun H2 Z2 g _ => (f.ft g).sq) r⟩
  | tup ds =>
    cases h
    simp only [Rp] at r
    obtain ⟨a, vs, rfl, f, r⟩ := r
    exact .inr (.inl ⟨a, vs, rfl, f.sq, wok_t (fun H2 Z2 g _ => (f.ft g).sq) r⟩)
  | str s =>
    cases h
    simp only [Rp] at r
    exact .inr (.inr ⟨_, r, wok_str⟩)
  | _ => cases h
theorem i_e (ha : PE X e (TE1 X io cf ca)) : PI X tg e (TI2 X io cf (.e ca)) := by
  refine PI.by' fun σ H R h => ?_
  obtain ⟨Ex, env, ds, env1, R0, ev, k⟩ := h
  simp only [evI] at ev
  split at ev
  · cases ev
  rename_i d e1 h1
  split at ev
  · rename_i xs h2
    cases ev
    cases d with
    | lst ds' =>
      refine ⟨_, pi_list ha, Ex, env, _, _, R0, h1, fun v H1 p1 o1 => ?_⟩
      rcases walk_rp (Ex1 := fun _ => False) h2 o1 with ⟨a, vs, rfl, q, w⟩ | ⟨a, vs, rfl, q, w⟩ | ⟨s, rfl, w⟩
      · exact ⟨a, rfl, ⟨vs, q⟩, k _ H1 p1 w⟩
      · simp only [Rp] at o1
        obtain ⟨a', vs', e', f, r⟩ := o1
        cases e'
        exact ⟨a, rfl, ⟨vs', f.sq⟩, k _ H1 p1 (by
          cases h2
          exact wok_l (fun H2 Z2 g _ => (f.ft g).sq) r)⟩
      · simp only [Rp] at o1
        obtain ⟨a', vs', e', f, r⟩ := o1
        cases e'
    | tup ds' =>
      refine ⟨_, pi_tup ha, Ex, env, _, _, R0, h1, fun v H1 p1 o1 => ?_⟩
      cases h2
      simp only [Rp] at o1
      obtain ⟨a', vs', rfl, f, r⟩ := o1
      exact ⟨a', rfl, ⟨vs', f.sq⟩, k _ H1 p1 (wok_t (fun H2 Z2 g _ => (f.ft g).sq) r)⟩
    | str s =>
      refine ⟨_, pi_str ha, Ex, env, _, _, R0, h1, fun v H1 p1 o1 => ?_⟩
      cases h2
      simp only [Rp] at o1
      exact ⟨_, o1, k _ H1 p1 wok_str⟩
    | _ => cases h2
  · cases ev
theorem toTIo {it : Expr} (h : PI X tg it (TI2 X io cf ci')) (u : ∀ env env2, unlend ci' env env2 = some env2) : PI X tg it (TI1 X io cf ci') := by
  refine h.imp fun σ H R h => ?_
  obtain ⟨Ex, env, ds, env1, R0, ev, k⟩ := h
  refine ⟨Ex, env, ds, env1, R0, ev, fun J H1 p w => k J H1 (ItP.plain p ?_ (u env))⟩
  obtain ⟨G, Y, wk, st⟩ := w
  exact ⟨G, Y, wk, fun H2 Z2 f _ z => st H2 Z2 f (fun _ _ q => q.elim) z⟩
theorem i_own {i : Nat} (ha : PE X e (tVar i)) : PI X tg e (TI1 X io cf (.own i)) := by
  refine PI.by' fun σ H R h => ?_
  obtain ⟨Ex, env, ds, env1, R0, ev, k⟩ := h
  simp only [evI] at ev
  split at ev
  · rename_i xs q
    cases ev
    obtain ⟨a, e1, ⟨vs, hv⟩, ip⟩ := ItP.lend R0 q
    exact ⟨_, pi_list ha, _, e1, a, rfl, ⟨vs, .inl (.inl hv)⟩, k _ H ip⟩
  · rename_i xs q
    cases ev
    obtain ⟨a, vs, ds', e0, e1, f, r⟩ := R0.slot i _ q
    cases e0
    exact ⟨_, pi_list ha, _, e1, a, rfl, ⟨vs, f.sq⟩, k _ H (ItP.plain (Pst.refl R0) (wok_l (fun H2 Z2 g _ => (f.ft g).sq) r) fun env2 => by simp only [unlend, q])⟩
  · rename_i d q
    split at ev
    · rename_i xs h2
      cases ev
      obtain ⟨v, e1, o1⟩ := R0.slot i _ q
      have u : ∀ env2, unlend (.own i) env env2 = some env2 := fun env2 => by simp only [unlend, q]
      cases d with
      | lst ds' =>
        cases h2
        simp only [Rp] at o1
        obtain ⟨a', vs', rfl, f, r⟩ := o1
        exact ⟨_, pi_list ha, _, e1, a', rfl, ⟨vs', f.sq⟩, k _ H (ItP.plain (Pst.refl R0) (wok_l (fun H2 Z2 g _ => (f.ft g).sq) r) u)⟩
      | tup ds' =>
        cases h2
        simp only [Rp] at o1
        obtain ⟨a', vs', rfl, f, r⟩ := o1
        exact ⟨_, pi_tup ha, _, e1, a', rfl, ⟨vs', f.sq⟩, k _ H (ItP.plain (Pst.refl R0) (wok_t (fun H2 Z2 g _ => (f.ft g).sq) r) u)⟩
      | str s =>
        cases h2
        simp only [Rp] at o1
        exact ⟨_, pi_str ha, _, e1, _, o1, k _ H (ItP.plain (Pst.refl R0) wok_str u)⟩
      | _ => cases h2
    · cases ev
  · cases ev
theorem rng_ok {i : Int} (h : rngOk i = true) : -(2 ^ 62) ≤ i ∧ i < 2 ^ 62 := by
  have : (-4611686018427387904 : Int) ≤ i ∧ i < 4611686018427387904 := by
    unfold rngOk at h
    simp only [Bool.and_eq_true, decide_eq_true_eq] at h
    exact h
  omega
theorem i_rng1 (hg : Gl X "range") (hm : X.mg "range" = none) (hs : noStar a = true) (ha : PE X a (TE1 X io cf ca)) : PI X tg (.Call (.Name "range" p) [a] [] pos) (TI2 X io cf (.rng1 ca)) := by
  refine (pi_range1 hg hm (pa_one hs ha) (star1 hs)).imp fun σ H R h => ?_
  obtain ⟨Ex, env, ds, env1, R0, ev, k⟩ := h
  simp only [evI] at ev
  split at ev
  · rename_i j e1 h1
    split at ev
    · rename_i h2
      cases ev
      refine ⟨Ex, env, _, _, R0, h1, fun v H1 p1 o1 => ?_⟩
      simp only [Rp] at o1
      subst o1
      exact ⟨j, rfl, (rng_ok h2).1, (rng_ok h2).2, k _ H1 p1 (wok_range)⟩
    · cases ev
  · cases ev
theorem star2 {env : PySem.Env} (hs : noStar a = true) (ht : noStar b = true) : starEach [a, b] env = [(false, eval a env), (false, eval b env)] := by
  rw [star_cons hs, star_cons ht]; rfl
theorem pa_two {ta tb : TE} (hs : noStar a = true) (ht : noStar b = true) (ha : PE X a ta) (hb : PE X b tb) : PA X [a, b] (tCons ta (tCons tb tNil)) := pa_cons ha (pa_one ht hb) (star_cons hs)
theorem i_rng2 (hg : Gl X "range") (hm : X.mg "range" = none) (hs : noStar a = true) (ht : noStar b = true) (ha : PE X a (TE1 X io cf ca)) (hb : PE X b (TE1 X io cf cb)) : PI X tg (.Call (.Name "range" p) [a, b] [] pos) (TI2 X io cf (.rng2 ca cb)) := by
  refine (pi_range2 hg hm (pa_two hs ht ha hb) (star2 hs ht) (star1 ht)).imp fun σ H R h => ?_
  obtain ⟨Ex, env, ds, env1, R0, ev, k⟩ := h
  simp only [evI] at ev
  split at ev
  · rename_i i e1 h1
    split at ev
    · rename_i j e2 h2
      split at ev
      · rename_i h3
        cases ev
        rw [Bool.and_eq_true] at h3
        refine ⟨Ex, env, _, _, R0, h1, fun v H1 p1 o1 => ⟨Ex, e1, _, _, p1.rel, h2, fun u H2 p2 o2 => ?_⟩⟩
        simp only [Rp] at o1 o2
        subst o1
        subst o2
        exact ⟨i, j, rfl, ⟨(rng_ok h3.1).1, (rng_ok h3.1).2, (rng_ok h3.2).1, (rng_ok h3.2).2⟩, k _ H2 (p1.trans p2) (wok_range)⟩
      · cases ev
    · cases ev
  · cases ev
end
end Cv
end

section
/-! CvQ: stores, targets, surroundings. -/
set_option autoImplicit false
set_option linter.all false
set_option maxRecDepth 100000
namespace Cv
open PySem PySem.Spec L2

section
variable {K : PySem.W.Frag} {io : Nat → Option Addr} {Ex : Addr → Prop} {H H' : Hp} {σ : St} {env env' : Env}
theorem sl_less {Z Z' : Addr → Prop} {i : Nat} {s : Sl} (h : SlotOk K io Ex H σ Z i s) (less : ∀ a, Z' a → Z a) : SlotOk K io Ex H σ Z' i s := by
  cases s with
  | no => trivial
  | val d => obtain ⟨v, e, r⟩ := h; exact ⟨v, e, Rp.ft (Ft.less less) _ _ r⟩
  | own d => obtain ⟨a, e, n, c⟩ := h; exact ⟨a, e, n, c.ft (Ft.less less) fun _ q => q⟩
  | io d => obtain ⟨a, e0, e, n, c⟩ := h; exact ⟨a, e0, e, n, c.ft (Ft.less less) fun _ q => q⟩
  | ro d => obtain ⟨a, vs, ds, e0, e, r, q⟩ := h; exact ⟨a, vs, ds, e0, e, r.ft (Ft.less less), RpL.ft (Ft.less less) _ _ q⟩
  | lent => exact h
/-- a slot holds something that is not tracked -/
theorem Rel.put {i : Nat} {s : Sl} {x : Option V} (R : Rel K io Ex H σ env) (h1 : ∀ d, s ≠ .own d) (h2 : ∀ d, s ≠ .io d) (h3 : s ≠ .lent) (hi : i < env.length → SlotOk K io Ex H (σ.set i x) (Zs σ env Ex) i s) :
    Pst K io Ex H σ env H (σ.set i x) (env.set i s) := by
  have off : ∀ j, j ≠ i → (env.set i s)[j]? = env[j]? := fun j hj => set_off hj
  have offσ : ∀ j, j ≠ i → (σ.set i x)[j]? = σ[j]? := fun j hj => set_off hj
  have at' : ∀ t, (env.set i s)[i]? = some t → t = s ∧ i < env.length := fun t q => by
    have hl := (List.getElem?_eq_some_iff.mp q).1
    rw [List.length_set] at hl
    rw [List.getElem?_set_self hl] at q
    exact ⟨(Option.some.inj q).symm, hl⟩
  have no : ∀ b, ¬ Own (σ.set i x) (env.set i s) i b := fun b o => by
    obtain ⟨⟨d, q⟩, _⟩ := o
    rcases q with q | q
    · exact h1 d (at' _ q).1.symm
    · exact h2 d (at' _ q).1.symm
  have ow : ∀ b, Ow (σ.set i x) (env.set i s) b → Ow σ env b := fun b ⟨j, o⟩ => by
    by_cases hj : j = i
    · subst hj; exact absurd o (no b)
    · obtain ⟨⟨d, q⟩, e⟩ := o
      rw [off j hj] at q
      rw [offσ j hj] at e
      exact ⟨j, ⟨d, q⟩, e⟩
  have zs : ∀ b, Zs (σ.set i x) (env.set i s) Ex b → Zs σ env Ex b := fun b z => z.imp (ow b) _root_.id
  refine ⟨R.alter i (by rw [List.length_set, List.length_set]; exact R.len) off offσ (Ft.less zs) (fun j b hj o => ⟨fun _ q => q, (R.ow o).1⟩) (fun _ _ _ _ _ x => x) R.ext (fun t q => ?_) fun b o => absurd o (no b), Ft.less ow, fun j q => ?_⟩
  · obtain ⟨rfl, hl⟩ := at' t q
    exact sl_less (hi hl) zs
  · by_cases hj : j = i
    · subst hj
      exact absurd (at' _ q).1.symm h3
    · rw [off j hj] at q
      exact ⟨q, offσ j hj⟩
/-- a new object is stored in a slot of the frame: its own -/
theorem Rel.putOwn {i : Nat} {s0 : Sl} {p : Addr} {d : D} (R : Rel K io Ex H σ env) (R' : Rel K io (bar Ex p) H σ env) (h : env[i]? = some s0) (c : Ct K H (Zs σ env (bar Ex p)) p d) (np : ¬ Ex p) :
    Rel K io Ex H (σ.set i (some (.ref p))) (env.set i (.own d)) ∧ ∀ b, Ow (σ.set i (some (.ref p))) (env.set i (.own d)) b → Ow σ env b ∨ b = p := by
  have off : ∀ j, j ≠ i → (env.set i (.own d))[j]? = env[j]? := fun j hj => set_off hj
  have offσ : ∀ j, j ≠ i → (σ.set i (some (.ref p)))[j]? = σ[j]? := fun j hj => set_off hj
  have at' : (env.set i (.own d))[i]? = some (.own d) := set_at h
  have atσ : (σ.set i (some (V.ref p)))[i]? = some (some (.ref p)) := by
    rw [List.getElem?_set_self]
    rw [← R.len]
    exact (List.getElem?_eq_some_iff.mp h).1
  have ow : ∀ b, Ow (σ.set i (some (.ref p))) (env.set i (.own d)) b → Ow σ env b ∨ b = p := fun b ⟨j, o⟩ => by
    obtain ⟨⟨d', q⟩, e⟩ := o
    by_cases hj : j = i
    · subst hj
      rw [atσ] at e
      cases e
      exact .inr rfl
    · rw [off j hj] at q
      rw [offσ j hj] at e
      exact .inl ⟨j, ⟨d', q⟩, e⟩
  have zs : ∀ b, Zs (σ.set i (some (.ref p))) (env.set i (.own d)) Ex b → Zs σ env (bar Ex p) b := fun b z => z.elim (fun z => (ow b z).imp _root_.id .inr) fun z => .inr (.inl z)
  refine ⟨R'.alter i (by rw [List.length_set, List.length_set]; exact R.len) off offσ (Ft.less zs) (fun j b hj o => ⟨fun _ q => q, (R.ow o).1⟩) (fun j b hj l e x => ?_) R.ext (fun t q => ?_) (fun b o j hj o' => ?_), ow⟩
  · obtain ⟨c', e', x'⟩ := R.slot j _ l
    rw [e] at e'
    cases e'
    exact x'
  · rw [at'] at q
    cases q
    exact ⟨p, atσ, np, c.ft (Ft.less zs) fun _ q => q⟩
  · obtain ⟨_, e⟩ := o
    rw [atσ] at e
    cases e
    exact (R'.ow o').1 (.inr rfl)
theorem store_inv {i : Nat} {s : Sl} (h : store i s env = some env') : env' = env.set i s ∧ ∃ s0, env[i]? = some s0 := by
  unfold store at h
  split at h <;> first | (cases h; exact ⟨rfl, _, by assumption⟩) | cases h
theorem Rel.store {i : Nat} {d : D} {v : V} (R : Rel K io Ex H σ env) (h : store i (.val d) env = some env') (r : Rp K H (Zs σ env Ex) d v) : Pst K io Ex H σ env H (σ.set i (some v)) env' := by
  obtain ⟨rfl, s0, hs⟩ := store_inv h
  exact R.put (fun _ e => by cases e) (fun _ e => by cases e) (fun e => by cases e) fun hl => ⟨v, by rw [List.getElem?_set_self (by rw [← R.len]; exact hl)], r⟩
theorem Rel.storeOwn {i : Nat} {d : D} {env1 : Env} {p : Addr} {H0 : Hp} (R0 : Rel K io Ex H0 σ env) (ps : Pst K io Ex H0 σ env H σ env1) (R' : Rel K io (bar Ex p) H σ env1) (n : H0 p = none ∨ Ow σ env p) (c : Ct K H (Zs σ env1 (bar Ex p)) p d)
    (h : Cv.store i (.own d) env1 = some env') : Pst K io Ex H0 σ env H (σ.set i (some (.ref p))) env' := by
  obtain ⟨rfl, s0, hs⟩ := store_inv h
  have np : ¬ Ex p := fun z => n.elim (R0.ext p z) fun ⟨i, o⟩ => (R0.ow o).1 z
  obtain ⟨R2, ow⟩ := Rel.putOwn ps.rel R' hs c np
  refine ⟨R2, fun b o e nb => ?_, fun j q => ?_⟩
  · obtain ⟨z1, z2⟩ := ps.ft b o e nb
    refine ⟨z1, fun z => ?_⟩
    rcases ow b z with z | rfl
    · exact z2 z
    · rcases n with n | n
      · rw [n] at e; cases e
      · exact nb n
  · by_cases hj : j = i
    · subst hj
      rw [set_at hs] at q
      cases q
    · rw [set_off hj] at q
      obtain ⟨l1, l2⟩ := ps.lent j q
      exact ⟨l1, by rw [set_off hj]⟩
end

/-! ### targets -/
def TGo (K : PySem.W.Frag) (io : Nat → Option Addr) (tg : Tg) : TG := fun v σ H Q => ∃ (Ex : Addr → Prop) (env : Env) (d : D) (env' : Env), Rel K io Ex H σ env ∧ Rp K H (Zs σ env Ex) d v ∧ asgT tg d env = some env' ∧
  ∀ σ', Pst K io Ex H σ env H σ' env' → (∀ j, j ∉ slotsT tg → σ'[j]? = σ[j]?) → σ'.length = σ.length → Q σ' H
def TGos (K : PySem.W.Frag) (io : Nat → Option Addr) (tgs : List Tg) : TGs := fun vs σ H Q => ∃ (Ex : Addr → Prop) (env : Env) (ds : List D) (env' : Env), Rel K io Ex H σ env ∧ RpL K H (Zs σ env Ex) ds vs ∧ asgTs tgs ds env = some env' ∧
  ∀ σ', Pst K io Ex H σ env H σ' env' → (∀ j, j ∉ slotsT.slotsL tgs → σ'[j]? = σ[j]?) → σ'.length = σ.length → Q σ' H
section
variable {X : Cx} {io : Nat → Option Addr} {e : Expr} {es : List Expr} {tg : Tg} {tgs : List Tg} {pos : Pos}
theorem _root_.L2.PG.imp {X : Cx} {e : Expr} {t t' : TG} (h : PG X e t) (i : ∀ v σ H Q, t' v σ H Q → t v σ H Q) : PG X e t' := ⟨fun pins s σ H v u Q I r hw => h.run pins s σ H v u Q I r (i v σ H Q hw)⟩
theorem _root_.L2.PGs.imp {X : Cx} {e : List Expr} {t t' : TGs} (h : PGs X e t) (i : ∀ v σ H Q, t' v σ H Q → t v σ H Q) : PGs X e t' := ⟨fun pins s σ H v u Q I r hw => h.run pins s σ H v u Q I r (i v σ H Q hw)⟩
theorem g_name {x : Str} {i : Nat} (hN : X.N.Nodup) (hi : X.N[i]? = some x) (hx : Loc X.env.scope x) (hf : X.fn x = true ∨ X.env.scope.names.lookup x = some .local) : PG X (.Name x pos) (TGo X.K io (.name i)) := by
  refine (pg_name hN hi hx hf).imp fun v σ H Q h => ?_
  obtain ⟨Ex, env, d, env', R, r, ev, k⟩ := h
  simp only [asgT] at ev
  exact k _ (R.store ev r) (fun j hj => set_off fun z => hj (by rw [z]; exact List.mem_singleton.mpr rfl)) (List.length_set ..)
theorem g_nil : PGs X [] (TGos X.K io []) := by
  refine pgs_nil.imp fun v σ H Q h => ?_
  obtain ⟨Ex, env, ds, env', R, r, ev, k⟩ := h
  cases ds with
  | nil =>
    simp only [asgTs] at ev
    cases ev
    exact ⟨r.inv0, k _ (Pst.refl R) (fun _ _ => rfl) rfl⟩
  | cons _ _ => simp [asgTs] at ev
theorem g_cons (hs : noStar e = true) (h1 : PG X e (TGo X.K io tg)) (h2 : PGs X es (TGos X.K io tgs)) : PGs X (e :: es) (TGos X.K io (tg :: tgs)) := by
  refine (pgs_cons h1 h2 (by cases e <;> first | rfl | (simp [noStar] at hs))).imp fun v σ H Q h => ?_
  obtain ⟨Ex, env, ds, env', R, r, ev, k⟩ := h
  cases ds with
  | nil => simp [asgTs] at ev
  | cons d ds =>
    obtain ⟨v0, r0, rfl, r1, r2⟩ := r.inv
    simp only [asgTs] at ev
    split at ev
    · rename_i e1 h3
      refine ⟨v0, r0, rfl, Ex, env, d, e1, R, r1, h3, fun σ1 p1 o1 l1 => ⟨Ex, e1, ds, env', p1.rel, RpL.ft p1.zs _ _ r2, ev, fun σ2 p2 o2 l2 => k σ2 (p1.trans p2) (fun j hj => ?_) (l2.trans l1)⟩⟩
      have hj' : j ∉ slotsT tg ++ slotsT.slotsL tgs := hj
      rw [List.mem_append, not_or] at hj'
      exact (o2 j hj'.2).trans (o1 j hj'.1)
    · cases ev
theorem asg_len : ∀ {es : List Expr} {env : PySem.Env}, (∀ e ∈ es, noStar e = true) → (assignEach es env).length = es.length ∧ (assignEach es env).findIdx? (·.1) = none
  | [], _, _ => ⟨rfl, rfl⟩
  | e :: es, env, h => by
    have ih := asg_len (es := es) (env := env) fun x hx => h x (List.mem_cons_of_mem _ hx)
    have e1 : assignEach (e :: es) env = (false, assign e env) :: assignEach es env := by
      have := h e List.mem_cons_self
      cases e <;> first | rfl | (simp [noStar] at this)
    rw [e1]
    refine ⟨by rw [List.length_cons, List.length_cons, ih.1], ?_⟩
    rw [List.findIdx?_cons, ih.2]
    rfl
theorem g_tup {k0 : Nat} (hcalm : X.calm = true) (hs : ∀ e ∈ es, noStar e = true) (hl : tgs.length = es.length) (h : PGs X es (TGos X.K io tgs)) : PG X (.Tuple es k0 pos) (TGo X.K io (.tup tgs)) := by
  refine (pg_tup hcalm h (asg_len hs).1 (asg_len hs).2).imp fun v σ H Q h => ?_
  obtain ⟨Ex, env, d, env', R, r, ev, k⟩ := h
  simp only [asgT] at ev
  split at ev
  · rename_i ds
    simp only [Rp] at r
    obtain ⟨a, vs, rfl, f, r⟩ := r
    have hd : ∀ (tgs : List Tg) (ds : List D) (env env' : Env), asgTs tgs ds env = some env' → ds.length = tgs.length := fun tgs => by
      induction tgs with
      | nil => intro ds env env' e; cases ds with
        | nil => rfl
        | cons _ _ => simp [asgTs] at e
      | cons t tgs ih => intro ds env env' e; cases ds with
        | nil => simp [asgTs] at e
        | cons d ds =>
          simp only [asgTs] at e
          split at e
          · rename_i e1 _
            rw [List.length_cons, List.length_cons, ih _ _ _ e]
          · cases e
    exact ⟨a, vs, rfl, f.sq, by rw [r.length, hd _ _ _ _ ev, hl], Ex, env, ds, env', R, r, ev, fun σ' p o l => k σ' p o l⟩
  · cases ev
end

/-! ### surroundings -/
/-- the promise of a def that is reckoned by cf -/
def spF (K : PySem.W.Frag) (k : Fk) (np : Nat) (cf : List D → Option (D × D)) : Sp := fun vs H Q _ => vs.length = np ∧ match k with
  | .v => ∃ (Z : Addr → Prop) (ds : List D) (r o : D), (∀ a, Z a → H a ≠ none) ∧ RpL K H Z ds vs ∧ cf ds = some (r, o) ∧ ∀ v H', Same H H' → Rp K H' Z r v → Q v H'
  | .ro => ∃ (Z : Addr → Prop) (a : Addr) (us ws : List V) (xs ds : List D) (r o : D), (∀ a, Z a → H a ≠ none) ∧ vs = .ref a :: ws ∧ RoL K H Z a us ∧ RpL K H Z xs us ∧ RpL K H Z ds ws ∧ cf (.lst xs :: ds) = some (r, o) ∧ ∀ v H', Same H H' → Rp K H' Z r v → Q v H'
  | .rn => ∃ (Z : Addr → Prop) (a : Addr) (us ws : List V) (xs ds : List D) (r o : D), (∀ a, Z a → H a ≠ none) ∧ vs = .ref a :: ws ∧ RoL K H Z a us ∧ RpL K H Z xs us ∧ RpL K H Z ds ws ∧ cf (.lst xs :: ds) = some (r, o) ∧
      ∀ p H', Same H H' → H p = none → Ct K H' (fun b => Z b ∨ b = p) p r → Q (.ref p) H'
  | .io => ∃ (Z : Addr → Prop) (a : Addr) (ws : List V) (d0 : D) (ds : List D) (r o : D), (∀ a, Z a → H a ≠ none) ∧ vs = .ref a :: ws ∧ Z a ∧ Ct K H Z a d0 ∧ RpL K H Z ds ws ∧ cf (d0 :: ds) = some (r, o) ∧
      ∀ v H', (∀ b u, H b = some u → b ≠ a → H' b = some u) → Ct K H' Z a o → Rp K H' Z r v → Q v H'
structure XOk (G : GI) (S : SC) (X : Cx) (cf : CallF) (lev : Nat) : Prop where
  N : X.N = S.N
  nd : X.N.Nodup
  sc : X.env.scope = S.sc
  kind : S.sc.kind = .function
  calm : X.calm = true
  un : X.A.units + 65 < cLine
  room : Room lev X.A
  sto : ∀ x, stoB S.raw x = true → Loc X.env.scope x ∧ (X.fn x = true ∨ X.env.scope.names.lookup x = some .local)
  free : ∀ x ∈ G.free, X.mg x = none
  consts : ∀ x d, G.consts.lookup x = some d → ∃ u v, X.mg x = some u ∧ RelV v u ∧ ∀ H Z, Rp X.K H Z d v
  fns : ∀ j x k np, G.fns[j]? = some (x, k, np) → C8.Cal X.prog X.w X.K X.mg X.base lev x (spF X.K k np (cf j)) []
  len : ∀ j x k np, G.fns[j]? = some (x, k, np) → ∀ ds r, cf j ds = some r → ds.length = np
end Cv
end

section
/-! CvR: comprehensions. -/
set_option autoImplicit false
set_option linter.all false
set_option maxRecDepth 100000
namespace Cv
open PySem PySem.Spec L2

/-! ### names of a block forgotten, and put back -/
theorem wipe_in {σ : St} {j : Nat} : ∀ {vs : List Nat}, j ∈ vs → j < σ.length → (wipe σ vs)[j]? = some none
  | v :: vs, h, hl => by
    show ((wipe σ vs).set v none)[j]? = some none
    by_cases e : j = v
    · subst e
      rw [List.getElem?_set_self]
      rw [wipe_length]; exact hl
    · rw [List.getElem?_set_ne (Ne.symm e)]
      exact wipe_in ((List.mem_cons.mp h).resolve_left e) hl
theorem wipeS_length (env : Env) : ∀ vs : List Nat, (wipeS env vs).length = env.length
  | [] => rfl
  | v :: vs => by show ((wipeS env vs).set v .no).length = _; rw [List.length_set, wipeS_length env vs]
theorem wipeS_out {env : Env} {j : Nat} : ∀ {vs : List Nat}, j ∉ vs → (wipeS env vs)[j]? = env[j]?
  | [], _ => rfl
  | v :: vs, h => by
    show ((wipeS env vs).set v .no)[j]? = _
    rw [List.getElem?_set_ne fun z => h (by rw [z]; exact List.mem_cons_self)]
    exact wipeS_out fun z => h (List.mem_cons_of_mem _ z)
theorem wipeS_in {env : Env} {j : Nat} : ∀ {vs : List Nat}, j ∈ vs → j < env.length → (wipeS env vs)[j]? = some .no
  | v :: vs, h, hl => by
    show ((wipeS env vs).set v .no)[j]? = some .no
    by_cases e : j = v
    · subst e
      rw [List.getElem?_set_self]
      rw [wipeS_length]; exact hl
    · rw [List.getElem?_set_ne (Ne.symm e)]
      exact wipeS_in ((List.mem_cons.mp h).resolve_left e) hl
theorem back_length (old new : Env) : ∀ vs : List Nat, (back old new vs).length = new.length
  | [] => rfl
  | v :: vs => by show ((back old new vs).set v _).length = _; rw [List.length_set, back_length old new vs]
theorem back_out {old new : Env} {j : Nat} : ∀ {vs : List Nat}, j ∉ vs → (back old new vs)[j]? = new[j]?
  | [], _ => rfl
  | v :: vs, h => by
    show ((back old new vs).set v _)[j]? = _
    rw [List.getElem?_set_ne fun z => h (by rw [z]; exact List.mem_cons_self)]
    exact back_out fun z => h (List.mem_cons_of_mem _ z)
theorem back_in {old new : Env} {j : Nat} : ∀ {vs : List Nat}, j ∈ vs → j < new.length → (back old new vs)[j]? = some (old.getD j .no)
  | v :: vs, h, hl => by
    show ((back old new vs).set v _)[j]? = _
    by_cases e : j = v
    · subst e
      rw [List.getElem?_set_self]
      rw [back_length]; exact hl
    · rw [List.getElem?_set_ne (Ne.symm e)]
      exact back_in ((List.mem_cons.mp h).resolve_left e) hl
theorem free_in {env : Env} {j : Nat} : ∀ {vs : List Nat}, free env vs = true → j ∈ vs → env[j]? = some .no ∨ ∃ d, env[j]? = some (.val d)
  | v :: vs, h, hj => by
    simp only [free, Bool.and_eq_true] at h
    rcases List.mem_cons.mp hj with rfl | hj
    · have h1 := h.1
      split at h1
      · exact .inl (by assumption)
      · exact .inr ⟨_, by assumption⟩
      · cases h1
    · exact free_in h.2 hj
theorem wipe_eq {σ σ2 : St} {vs : List Nat} (h : ∀ j, j ∉ vs → σ2[j]? = σ[j]?) (hl : σ2.length = σ.length) : wipe σ2 vs = wipe σ vs := by
  refine List.ext_getElem? fun j => ?_
  by_cases hj : j ∈ vs
  · by_cases hlt : j < σ.length
    · rw [wipe_in hj hlt, wipe_in hj (by omega)]
    · rw [List.getElem?_eq_none (by rw [wipe_length]; omega), List.getElem?_eq_none (by rw [wipe_length]; omega)]
  · rw [wipe_out hj, wipe_out hj, h j hj]
theorem wipe_wipe {σ : St} {vs : List Nat} : wipe (wipe σ vs) vs = wipe σ vs := wipe_eq (fun j hj => wipe_out hj) (wipe_length _ _)

section
variable {K : PySem.W.Frag} {io : Nat → Option Addr} {Ex Ex1 Ex2 : Addr → Prop} {H H1 H2 H3 : Hp} {σ σ2 σ3 : St} {env env' e1 e2 e3 : Env} {D : Addr}
theorem Rel.wipe (R : Rel K io Ex H σ env) : ∀ vs : List Nat, Pst K io Ex H σ env H (L2.wipe σ vs) (wipeS env vs)
  | [] => Pst.refl R
  | v :: vs => by
    have ih := Rel.wipe R vs
    exact ih.trans (ih.rel.put (i := v) (s := .no) (x := none) (fun _ e => by cases e) (fun _ e => by cases e) (fun e => by cases e) fun _ => trivial)
theorem Rel.back {own : List Nat} (R1 : Rel K io Ex1 H1 σ e1) (fr : free e1 own = true) (R2 : Rel K io Ex2 H2 (L2.wipe σ own) (wipeS e2 own)) (fz : Ft H1 (Zs σ e1 Ex1) H2 (Zs (L2.wipe σ own) (wipeS e2 own) Ex2)) :
    Rel K io Ex2 H2 σ (Cv.back e1 e2 own) ∧ (∀ b, Ow σ (Cv.back e1 e2 own) b → Ow (L2.wipe σ own) (wipeS e2 own) b) ∧ ∀ (j : Nat), (Cv.back e1 e2 own)[j]? = some .lent → (wipeS e2 own)[j]? = some .lent ∧ σ[j]? = (L2.wipe σ own)[j]? := by
  have hl : e2.length = e1.length := by
    have := R2.len
    rw [wipeS_length, wipe_length, ← R1.len] at this
    exact this
  have out : ∀ j, j ∉ own → (Cv.back e1 e2 own)[j]? = (wipeS e2 own)[j]? := fun j hj => by rw [back_out hj, wipeS_out hj]
  have inn : ∀ j s, j ∈ own → (Cv.back e1 e2 own)[j]? = some s → e1[j]? = some s ∧ (s = .no ∨ ∃ d, s = .val d) := fun j s hj q => by
    have hlt : j < e2.length := by
      have := (List.getElem?_eq_some_iff.mp q).1
      rw [back_length] at this
      exact this
    rw [back_in hj hlt] at q
    have e : e1[j]? = some (e1.getD j .no) := by
      rw [List.getD_eq_getElem?_getD, List.getElem?_eq_getElem (by omega : j < e1.length)]; rfl
    rw [Option.some.inj q] at e
    refine ⟨e, ?_⟩
    rcases free_in fr hj with z | ⟨d, z⟩ <;> rw [e] at z <;> cases z
    · exact .inl rfl
    · exact .inr ⟨d, rfl⟩
  have own' : ∀ j b, Own σ (Cv.back e1 e2 own) j b → Own (L2.wipe σ own) (wipeS e2 own) j b := fun j b o => by
    obtain ⟨⟨d, q⟩, e⟩ := o
    by_cases hj : j ∈ own
    · rcases q with q | q <;> obtain ⟨_, z⟩ := inn j _ hj q <;> rcases z with z | ⟨_, z⟩ <;> cases z
    · rw [out j hj] at q
      exact ⟨⟨d, q⟩, by rw [wipe_out hj]; exact e⟩
  have ow : ∀ b, Ow σ (Cv.back e1 e2 own) b → Ow (L2.wipe σ own) (wipeS e2 own) b := fun b ⟨j, o⟩ => ⟨j, own' j b o⟩
  have zs : ∀ b, Zs σ (Cv.back e1 e2 own) Ex2 b → Zs (L2.wipe σ own) (wipeS e2 own) Ex2 b := fun b z => z.imp (ow b) _root_.id
  refine ⟨⟨by rw [back_length, hl, R1.len], fun j s q => ?_, fun i j a o o' => R2.inj i j a (own' i a o) (own' j a o'), R2.ext⟩, ow, fun j q => ?_⟩
  · by_cases hj : j ∈ own
    · obtain ⟨q1, z⟩ := inn j s hj q
      rcases z with rfl | ⟨d, rfl⟩
      · trivial
      · obtain ⟨v, e, r⟩ := R1.slot j _ q1
        exact ⟨v, e, Rp.ft (fz.trans (Ft.less zs)) _ _ r⟩
    · rw [out j hj] at q
      exact sl_less ((R2.slot j s q).ft (σ' := σ) (by rw [wipe_out hj]) Ft.refl (fun a q e => ⟨fun _ q => q, by
        obtain ⟨d, q'⟩ := q
        refine (R2.ow (i := j) ⟨⟨d, ?_⟩, e⟩).1
        rcases q' with q' | q'
        · exact .inl (by rw [q, q'])
        · exact .inr (by rw [q, q'])⟩) fun _ _ _ x => x) zs
  · by_cases hj : j ∈ own
    · obtain ⟨_, z⟩ := inn j _ hj q
      rcases z with z | ⟨_, z⟩ <;> cases z
    · rw [out j hj] at q
      exact ⟨q, by rw [wipe_out hj]⟩

/-- behind turns of a comprehension: its list D stands barred, new since H1 -/
structure PstX (K : PySem.W.Frag) (io : Nat → Option Addr) (Ex1 : Addr → Prop) (D : Addr) (H1 : Hp) (σ : St) (e1 : Env) (H2 : Hp) (σ2 : St) (e2 : Env) : Prop where
  rel : Rel K io (bar Ex1 D) H2 σ2 e2
  ft : Ft H1 (Ow σ e1) H2 (Ow σ2 e2)
  fz : Ft H1 (Zs σ e1 Ex1) H2 (Zs σ2 e2 (bar Ex1 D))
  lent : ∀ (j : Nat), e2[j]? = some .lent → e1[j]? = some .lent ∧ σ2[j]? = σ[j]?
theorem PstX.start {o : HO} (R1 : Rel K io Ex1 H1 σ e1) (hD : H1 D = none) : PstX K io Ex1 D H1 σ e1 (upd H1 D o) σ e1 :=
  ⟨R1.newbar hD, Ft.same (same_upd hD), R1.less_new hD, fun _ h => ⟨h, rfl⟩⟩
theorem PstX.step (x : PstX K io Ex1 D H1 σ e1 H2 σ2 e2) (p : Pst K io (bar Ex1 D) H2 σ2 e2 H3 σ3 e3) : PstX K io Ex1 D H1 σ e1 H3 σ3 e3 :=
  ⟨p.rel, x.ft.trans p.ft, x.fz.trans p.zs, fun j q => ⟨(x.lent j (p.lent j q).1).1, (p.lent j q).2.trans (x.lent j (p.lent j q).1).2⟩⟩
theorem Rel.write {p : Addr} {o : HO} (R : Rel K io (bar Ex1 p) H2 σ2 e2) : Rel K io (bar Ex1 p) (upd H2 p o) σ2 e2 :=
  R.re (fun b u e n => ⟨by rw [upd_ne fun z => n (.inr (.inr z))]; exact e, n⟩) (fun a o => ⟨fun u e => by
    rw [upd_ne]
    · exact e
    · rintro rfl
      obtain ⟨i, o⟩ := o
      exact (R.ow o).1 (.inr rfl), by obtain ⟨i, o⟩ := o; exact (R.ow o).1⟩) (fun _ _ _ _ x => x) fun a x => by
    by_cases e : a = p
    · subst e; rw [upd_same]; simp
    · rw [upd_ne e]; exact R.ext a x
theorem PstX.write {o : HO} (hD : H1 D = none) (x : PstX K io Ex1 D H1 σ e1 H2 σ2 e2) : PstX K io Ex1 D H1 σ e1 (upd H2 D o) σ2 e2 :=
  ⟨x.rel.write, fun b u e n => ⟨by rw [upd_ne (ne_of_none e hD)]; exact (x.ft b u e n).1, (x.ft b u e n).2⟩, fun b u e n => ⟨by rw [upd_ne (ne_of_none e hD)]; exact (x.fz b u e n).1, (x.fz b u e n).2⟩, x.lent⟩
/-- what is barred stands -/
theorem Pst.bars (R : Rel K io Ex H σ env) (p : Pst K io Ex H σ env H2 σ2 e2) {a : Addr} (x : Ex a) {o : HO} (e : H a = some o) : H2 a = some o := (p.ft a o e fun ⟨i, q⟩ => (R.ow q).1 x).1
theorem PstX.bars (R : Rel K io Ex1 H1 σ e1) (p : PstX K io Ex1 D H1 σ e1 H2 σ2 e2) {a : Addr} (x : Ex1 a) {o : HO} (e : H1 a = some o) : H2 a = some o := (p.ft a o e fun ⟨i, q⟩ => (R.ow q).1 x).1
end

/-! ### the rule -/
section
variable {X : Cx} {io : Nat → Option Addr} {cf : CallF} {tgE iter elt : Expr} {ifs : List Expr} {scope : Scope} {own : List (Str × Nat)} {pos : Pos} {ce : CE} {tg : Tg} {ci : CI} {co : CO}
theorem lcGo_len {own : List Nat} {t : Env → Option (Bool × Env)} {e : Env → R} : ∀ {ds : List D} {env env' : Env} {r : List D}, lcGo tg own t e ds env = some (r, env') → r.length ≤ ds.length
  | [], env, env', r, h => by simp only [lcGo] at h; cases h; exact Nat.le_refl _
  | d :: ds, env, env', r, h => by
    simp only [lcGo] at h
    split at h
    · cases h
    split at h
    · cases h
    · exact Nat.le_succ_of_le (lcGo_len h)
    split at h
    · cases h
    split at h
    · cases h
    rename_i h5
    cases h
    exact Nat.succ_le_succ (lcGo_len h5)
theorem lcGo_inv {own : List Nat} {t : Env → Option (Bool × Env)} {e : Env → R} {d : D} {ds : List D} {env env' : Env} {r : List D} (h : lcGo tg own t e (d :: ds) env = some (r, env')) :
    ∃ env1 b env2, asgT tg d (wipeS env own) = some env1 ∧ t env1 = some (b, env2) ∧ ((b = false ∧ lcGo tg own t e ds env2 = some (r, env')) ∨ (b = true ∧ ∃ x env3 r', e env2 = some (x, env3) ∧ lcGo tg own t e ds env3 = some (r', env') ∧ r = x :: r')) := by
  simp only [lcGo] at h
  split at h
  · cases h
  rename_i env1 h1
  split at h
  · cases h
  · rename_i env2 h2
    exact ⟨env1, false, env2, h1, h2, .inl ⟨rfl, h⟩⟩
  · rename_i env2 h2
    split at h
    · cases h
    rename_i x env3 h3
    split at h
    · cases h
    rename_i r' env4 h4
    cases h
    exact ⟨env1, true, env2, h1, h2, .inr ⟨rfl, x, env3, r', h3, h4, rfl⟩⟩
theorem drop_at {α : Type} {ds : List α} {i : Nat} (h : i < ds.length) : ∃ d, ds[i]? = some d ∧ ds.drop i = d :: ds.drop (i + 1) :=
  ⟨ds[i], List.getElem?_eq_getElem h, List.drop_eq_getElem_cons h⟩
abbrev TBo (X : Cx) (io : Nat → Option Addr) (cf : CallF) (c : CO) : TT := TB X.K io (evT cf c)
theorem lc_tr {vs : List Nat} (hsl : ∀ j ∈ slotsT tg, j ∈ vs) (σ : St) (H : Hp) (Q : VK) (h : TF1 X io cf (.lc ce tg ci vs co) σ H Q) : tLc (TI1 X io cf ci) (TGo X.K io tg) (TBo X io cf co) (TE1 X io cf ce) vs σ H Q := by
  obtain ⟨Ex, env, d, env', R, ev, k⟩ := h
  simp only [evE] at ev
  split at ev
  · cases ev
  rename_i ds e1 h1
  split at ev
  · rename_i hfl
    rw [Bool.and_eq_true] at hfl
    split at ev
    · cases ev
    rename_i r e2 h2
    split at ev
    · rename_i e3 h3
      cases ev
      refine ⟨Ex, env, ds, e1, R, h1, fun J H1 ip D hD => ?_⟩
      obtain ⟨Ex1, R1, ⟨G, Y, wk, stab⟩, hle, hnone, fin⟩ := ip
      have hlen := lenOk_le hfl.2
      refine lc_it wk (fun i H2 => ∃ eI acc avs rest, PstX X.K io Ex1 D H1 σ e1 H2 (wipe σ vs) (wipeS eI vs) ∧ H2 D = some (.lst avs) ∧ RpL X.K H2 (Zs (wipe σ vs) (wipeS eI vs) (bar Ex1 D)) acc avs ∧ acc.length ≤ i ∧
        lcGo tg vs (evT cf co) (evE cf ce) (ds.drop i) eI = some (rest, e2) ∧ r = acc ++ rest) ?_ ?_ ?_ ?_
      · exact ⟨e1, [], [], r, (PstX.start R1 hD).step ((R1.newbar hD).wipe vs), upd_same, RpL.nil, Nat.le_refl _, h2, rfl⟩
      · rintro i H2 hi ⟨eI, acc, avs, rest, px, _⟩
        exact (stab H2 _ px.fz (fun a o x e => px.bars R1 x e) fun a z => px.rel.there z).1
      · rintro i x H2 H3 hi ⟨eI, acc, avs, rest, px, hDl, hacc, hal, hgo, hr⟩ hY
        obtain ⟨dd, hd1, hd2⟩ := drop_at hi
        obtain ⟨sm, rp⟩ := (stab H2 _ px.fz (fun a o x e => px.bars R1 x e) fun a z => px.rel.there z).2 i x H3 hi hY
        have rp := rp dd hd1
        rw [hd2] at hgo
        obtain ⟨env1, b, env2, g1, g2, g3⟩ := lcGo_inv hgo
        have p3 := px.rel.pst_same sm
        refine ⟨bar Ex1 D, wipeS eI vs, dd, env1, p3.rel, rp, g1, fun σ2 pG off len => ?_⟩
        have hw : wipe σ2 vs = wipe σ vs := (wipe_eq (fun j hj => off j fun z => hj (hsl j z)) len).trans wipe_wipe
        refine ⟨hw, bar Ex1 D, env1, b, env2, pG.rel, g2, fun H5 pT => ?_⟩
        have p5 := (p3.trans pG).trans pT
        have hD5 := p5.bars px.rel (.inr rfl) hDl
        rcases g3 with ⟨rfl, g4⟩ | ⟨rfl, xd, env3, r', g4, g5, rfl⟩
        · refine ifF ?_
          have p6 := p5.trans (p5.rel.wipe vs)
          rw [hw] at p6
          exact ⟨env2, acc, avs, rest, px.step p6, hD5, RpL.ft p6.zs _ _ hacc, Nat.le_succ_of_le hal, g4, hr⟩
        · refine ifT ?_
          refine ⟨bar Ex1 D, env2, xd, env3, pT.rel, g4, fun y H6 pE ry => ?_⟩
          have p6 := p5.trans pE
          have hD6 := p6.bars px.rel (.inr rfl) hDl
          have p7 := p6.trans (p6.rel.wipe vs)
          rw [hw] at p7
          have ry2 := Rp.ft (pE.rel.wipe vs).zs _ _ ry
          rw [hw] at ry2
          have fw : ∀ o, Ft H6 (Zs (wipe σ vs) (wipeS env3 vs) (bar Ex1 D)) (upd H6 D o) (Zs (wipe σ vs) (wipeS env3 vs) (bar Ex1 D)) := fun o b u e n => ⟨by rw [upd_ne fun z => n (.inr (.inr z))]; exact e, n⟩
          refine ⟨avs, hD6, by rw [hacc.length]; omega, env3, acc ++ [xd], avs ++ [y], r', (px.step p7).write hD, upd_same, (RpL.ft (fw _) _ _ (RpL.ft p7.zs _ _ hacc)).append (RpL.cons (Rp.ft (fw _) _ _ ry2) RpL.nil), ?_, g5, ?_⟩
          · rw [List.length_append]; exact Nat.succ_le_succ hal
          · rw [hr, List.append_assoc]; rfl
      · rintro H2 ⟨eI, acc, avs, rest, px, hDl, hacc, _, hgo, hr⟩
        rw [List.drop_length] at hgo
        simp only [lcGo] at hgo
        cases hgo
        rw [List.append_nil] at hr
        subst hr
        obtain ⟨R4, ow4, l4⟩ := R1.back hfl.1 px.rel px.fz
        have zs4 : ∀ b, Zs σ (back e1 e2 vs) (bar Ex1 D) b → Zs (wipe σ vs) (wipeS e2 vs) (bar Ex1 D) b := fun b z => z.imp (ow4 b) _root_.id
        have nD : ∀ a, Ex1 a → ¬ a = D := fun a x e => by subst e; exact R1.ext a x hD
        obtain ⟨R5, f5, l5, z5⟩ := fin (fun a => a = D) H2 σ (back e1 e2 vs) env' nD R4 (px.ft.trans (Ft.less ow4)) (fun j q => ⟨(px.lent j (l4 j q).1).1, rfl⟩) (px.fz.trans (Ft.less zs4)) h3
        have n := hnone D (.inl hD)
        have ps : Pst X.K io (bar Ex D) H σ env H2 σ env' := ⟨R5, f5, l5⟩
        obtain ⟨p6, R6⟩ := Pst.unbar (H3 := H2) R n ps (fun _ _ e => e) (fun _ _ e _ => e) (by rw [hDl]; simp)
        exact k D H2 p6 R6 n ⟨avs, hDl, RpL.ft (Ft.less fun b z => zs4 b (z5 b z)) _ _ hacc⟩
    · cases ev
  · cases ev
theorem s_lc (hcalm : X.calm = true) (hN : X.N.Nodup) (hi : PI X tgE iter (TI1 X io cf ci)) (ok : BlkOk X.N X.env.scope scope own) (hs : noSet iter = true) (hsl : ∀ j ∈ slotsT tg, j ∈ own.map (·.2))
    (hg : ∀ (s : Shared) (H : Hp) (C : Addr) (cl : List (Str × Addr)) (fp : List Addr), PG (X.blk s H scope (compEnvC scope cl C X.env) fp) tgE (TGo X.K io tg))
    (ht : ∀ (s : Shared) (H : Hp) (C : Addr) (cl : List (Str × Addr)) (fp : List Addr), PTs (X.blk s H scope (compEnvC scope cl C X.env) fp) ifs (TBo X io cf co))
    (he : ∀ (s : Shared) (H : Hp) (C : Addr) (cl : List (Str × Addr)) (fp : List Addr), PE (X.blk s H scope (compEnvC scope cl C X.env) fp) elt (TE1 X io cf ce)) :
    PE X (.ListComp elt [⟨tgE, iter, ifs, 0⟩] scope pos) (TF1 X io cf (.lc ce tg ci (own.map (·.2)) co)) := by
  exact (pe_lc hcalm hN hi ok hg ht he (folded_ok hs)).imp (lc_tr hsl)
end
end Cv
end

section
/-! CvS: comprehensions of two clauses. -/
set_option autoImplicit false
set_option linter.all false
set_option maxRecDepth 100000
namespace Cv
open PySem PySem.Spec L2
theorem wipeS_eq {σ σ2 : Env} {vs : List Nat} (h : ∀ j, j ∉ vs → σ2[j]? = σ[j]?) (hl : σ2.length = σ.length) : wipeS σ2 vs = wipeS σ vs := by
  refine List.ext_getElem? fun j => ?_
  by_cases hj : j ∈ vs
  · by_cases hlt : j < σ.length
    · rw [wipeS_in hj hlt, wipeS_in hj (by omega)]
    · rw [List.getElem?_eq_none (by rw [wipeS_length]; omega), List.getElem?_eq_none (by rw [wipeS_length]; omega)]
  · rw [wipeS_out hj, wipeS_out hj, h j hj]
section
variable {X : Cx} {io : Nat → Option Addr} {cf : CallF} {tgE iter elt tgE2 iter2 : Expr} {ifs ifs2 : List Expr} {scope : Scope} {own : List (Str × Nat)} {pos : Pos} {ce : CE} {tg tg2 : Tg} {ci ci2 : CI} {co co2 : CO}
theorem lcGo2_inv {own : List Nat} {t : Env → Option (Bool × Env)} {e : Env → Option (List D × Env)} {d : D} {ds : List D} {env env' : Env} {r : List D} (h : lcGo2 tg own t e (d :: ds) env = some (r, env')) :
    ∃ env1 b env2, asgT tg d (wipeS env own) = some env1 ∧ t env1 = some (b, env2) ∧ ((b = false ∧ lcGo2 tg own t e ds env2 = some (r, env')) ∨ (b = true ∧ ∃ x env3 r', e env2 = some (x, env3) ∧ lcGo2 tg own t e ds env3 = some (r', env') ∧ r = x ++ r')) := by
  simp only [lcGo2] at h
  split at h
  · cases h
  rename_i env1 h1
  split at h
  · cases h
  · rename_i env2 h2
    exact ⟨env1, false, env2, h1, h2, .inl ⟨rfl, h⟩⟩
  · rename_i env2 h2
    split at h
    · cases h
    rename_i x env3 h3
    split at h
    · cases h
    rename_i r' env4 h4
    cases h
    exact ⟨env1, true, env2, h1, h2, .inr ⟨rfl, x, env3, r', h3, h4, rfl⟩⟩
theorem inner_inv {ci2 : CI} {tg2 : Tg} {vs1 : List Nat} {t : Env → Option (Bool × Env)} {e : Env → R} {v v' : Env} {r : List D} (h : (match evI cf ci2 v with
    | none => none
    | some (ds2, v1) => match ci2 with
      | .own _ => none
      | _ => if lenOk ds2.length then lcGo tg2 vs1 t e ds2 v1 else none) = some (r, v')) : ∃ ds2 v1, evI cf ci2 v = some (ds2, v1) ∧ lcGo tg2 vs1 t e ds2 v1 = some (r, v') := by
  split at h
  · cases h
  rename_i ds2 v1 h1
  refine ⟨ds2, v1, h1, ?_⟩
  split at h
  · cases h
  · split at h
    · exact h
    · cases h
theorem lc2_tr {vs : List Nat} (hsl : ∀ j ∈ slotsT tg, j ∈ vs) (hsl2 : ∀ j ∈ slotsT tg2, j ∈ vs) (σ : St) (H : Hp) (Q : VK) (h : TF1 X io cf (.lc2 ce tg ci co tg2 ci2 co2 vs (slotsT tg2)) σ H Q) :
    tLc2 (TI1 X io cf ci) (TGo X.K io tg) (TBo X io cf co) (TI2 X io cf ci2) (TGo X.K io tg2) (TBo X io cf co2) (TE1 X io cf ce) vs (slotsT tg2) σ H Q := by
  obtain ⟨Ex, env, d, env', R, ev, k⟩ := h
  simp only [evE] at ev
  split at ev
  · cases ev
  rename_i ds e1 h1
  split at ev
  · rename_i hfl
    rw [Bool.and_eq_true] at hfl
    split at ev
    · cases ev
    rename_i r e2 h2
    split at ev
    · rename_i hrl
      have hrl := lenOk_le hrl
      split at ev
      · rename_i e3 h3
        cases ev
        generalize hv1 : slotsT tg2 = vs1 at *
        refine ⟨Ex, env, ds, e1, R, h1, fun J H1 ip D hD => ?_⟩
        obtain ⟨Ex1, R1, ⟨G, Y, wk, stab⟩, hle, hnone, fin⟩ := ip
        have hlen := lenOk_le hfl.2
        generalize hin : (fun v => match evI cf ci2 v with
          | none => none
          | some (ds2, v1) => match ci2 with
            | .own _ => none
            | _ => if lenOk ds2.length then lcGo tg2 vs1 (evT cf co2) (evE cf ce) ds2 v1 else none) = inner at h2
        have hPv : ∃ Pv : Nat → Hp → Prop, Pv = fun i H2 => ∃ eI acc avs rest, PstX X.K io Ex1 D H1 σ e1 H2 (wipe σ vs) (wipeS eI vs) ∧ H2 D = some (.lst avs) ∧ RpL X.K H2 (Zs (wipe σ vs) (wipeS eI vs) (bar Ex1 D)) acc avs ∧
          lcGo2 tg vs (evT cf co) inner (ds.drop i) eI = some (rest, e2) ∧ r = acc ++ rest := ⟨_, rfl⟩
        obtain ⟨Pv, hPv⟩ := hPv
        have fw : ∀ (H : Hp) (o : HO) (σ : St) (env : Env), Ft H (Zs σ env (bar Ex1 D)) (upd H D o) (Zs σ env (bar Ex1 D)) := fun H o σ env b u e n => ⟨by rw [upd_ne fun z => n (.inr (.inr z))]; exact e, n⟩
        refine ⟨fun i m H => m = ds.length - i ∧ i ≤ ds.length ∧ Pv i H, ⟨ds.length, by simp, Nat.zero_le _, ?_⟩, ?_⟩
        · rw [hPv]
          exact ⟨e1, [], [], r, (PstX.start R1 hD).step ((R1.newbar hD).wipe vs), upd_same, RpL.nil, h2, rfl⟩
        rintro i m H2 ⟨rfl, hin', p⟩
        have p' := p
        rw [hPv] at p'
        obtain ⟨eI, acc, avs, rest, px, hDl, hacc, hgo, hr⟩ := p'
        have gy := stab H2 _ px.fz (fun a o x e => px.bars R1 x e) fun a z => px.rel.there z
        by_cases hlt : i < ds.length
        · refine .inr ⟨wk.goes i H2 hlt gy.1, Pv (i + 1), fun H' p' => ⟨ds.length - (i + 1), by omega, rfl, hlt, p'⟩, fun x H3 yl => ?_⟩
          have hY := wk.yields i H2 x H3 hlt gy.1 yl
          obtain ⟨dd, hd1, hd2⟩ := drop_at hlt
          obtain ⟨sm, rp⟩ := gy.2 i x H3 hlt hY
          have rp := rp dd hd1
          rw [hd2] at hgo
          obtain ⟨env1, b, env2, g1, g2, g3⟩ := lcGo2_inv hgo
          have p3 := px.rel.pst_same sm
          refine ⟨bar Ex1 D, wipeS eI vs, dd, env1, p3.rel, rp, g1, fun σ2 pG off len => ?_⟩
          have hw : wipe σ2 vs = wipe σ vs := (wipe_eq (fun j hj => off j fun z => hj (hsl j z)) len).trans wipe_wipe
          refine ⟨hw, bar Ex1 D, env1, b, env2, pG.rel, g2, fun H5 pT => ?_⟩
          have p5 := (p3.trans pG).trans pT
          have hD5 := p5.bars px.rel (.inr rfl) hDl
          rcases g3 with ⟨rfl, g4⟩ | ⟨rfl, xs, env3, r', g4, g5, rfl⟩
          · refine ifF ?_
            have p6 := p5.trans (p5.rel.wipe vs)
            rw [hw] at p6
            rw [hPv]
            exact ⟨env2, acc, avs, rest, px.step p6, hD5, RpL.ft p6.zs _ _ hacc, g4, hr⟩
          · refine ifT ?_
            have hg4 := g4
            rw [← hin] at hg4
            obtain ⟨ds2, v1, g6, g7⟩ := inner_inv hg4
            refine ⟨bar Ex1 D, env2, ds2, v1, pT.rel, g6, fun J1 H6 pI w2 => ?_⟩
            obtain ⟨G2, Y2, wk2, stab2⟩ := w2
            have px6 := px.step (p5.trans pI)
            have hD6 := (p5.trans pI).bars px.rel (.inr rfl) hDl
            have hacc6 := RpL.ft (p5.trans pI).zs _ _ hacc
            have hPw : ∃ Pw : Nat → Hp → Prop, Pw = fun j H7 => ∃ vI pre bvs rest', PstX X.K io Ex1 D H1 σ e1 H7 (wipe σ2 vs1) (wipeS vI vs1) ∧ Ft H6 (Zs σ2 v1 (bar Ex1 D)) H7 (Zs (wipe σ2 vs1) (wipeS vI vs1) (bar Ex1 D)) ∧ H7 D = some (.lst bvs) ∧
              RpL X.K H7 (Zs (wipe σ2 vs1) (wipeS vI vs1) (bar Ex1 D)) (acc ++ pre) bvs ∧ lcGo tg2 vs1 (evT cf co2) (evE cf ce) (ds2.drop j) vI = some (rest', env3) ∧ xs = pre ++ rest' := ⟨_, rfl⟩
            obtain ⟨Pw, hPw⟩ := hPw
            refine ⟨fun j k H => k = ds2.length - j ∧ j ≤ ds2.length ∧ Pw j H, ⟨ds2.length, by simp, Nat.zero_le _, ?_⟩, ?_⟩
            · rw [hPw]
              have pw := pI.rel.wipe vs1
              exact ⟨v1, [], avs, xs, px6.step pw, pw.zs, pw.bars pI.rel (.inr rfl) hD6, by rw [List.append_nil]; exact RpL.ft pw.zs _ _ hacc6, g7, rfl⟩
            rintro j k2 H7 ⟨rfl, hjn, q⟩
            have q' := q
            rw [hPw] at q'
            obtain ⟨vI, pre, bvs, rest', px7, fz7, hD7, hacc7, hgo7, hxs⟩ := q'
            have gy2 := stab2 H7 _ fz7 (fun _ _ q => q.elim) fun a z => px7.rel.there z
            by_cases hjl : j < ds2.length
            · refine .inr ⟨wk2.goes j H7 hjl gy2.1, Pw (j + 1), fun H' p' => ⟨ds2.length - (j + 1), by omega, rfl, hjl, p'⟩, fun x2 H8 yl2 => ?_⟩
              have hY2 := wk2.yields j H7 x2 H8 hjl gy2.1 yl2
              obtain ⟨dd2, hd3, hd4⟩ := drop_at hjl
              obtain ⟨sm2, rp2⟩ := gy2.2 j x2 H8 hjl hY2
              have rp2 := rp2 dd2 hd3
              rw [hd4] at hgo7
              obtain ⟨u1, b2, u2, k1, k2, k3⟩ := lcGo_inv hgo7
              have q3 := px7.rel.pst_same sm2
              refine ⟨bar Ex1 D, wipeS vI vs1, dd2, u1, q3.rel, rp2, k1, fun σ3 qG off2 len2 => ?_⟩
              have hw2 : wipe σ3 vs1 = wipe σ2 vs1 := (wipe_eq (fun j hj => off2 j fun z => hj (by rw [← hv1]; exact z)) len2).trans wipe_wipe
              refine ⟨hw2, bar Ex1 D, u1, b2, u2, qG.rel, k2, fun H9 qT => ?_⟩
              have q5 := (q3.trans qG).trans qT
              have hD9 := q5.bars px7.rel (.inr rfl) hD7
              rcases k3 with ⟨rfl, k4⟩ | ⟨rfl, xd, u3, r'', k4, k5, rfl⟩
              · refine ifF ?_
                have q6 := q5.trans (q5.rel.wipe vs1)
                rw [hw2] at q6
                rw [hPw]
                exact ⟨u2, pre, bvs, rest', px7.step q6, fz7.trans q6.zs, hD9, RpL.ft q6.zs _ _ hacc7, k4, hxs⟩
              · refine ifT ?_
                refine ⟨bar Ex1 D, u2, xd, u3, qT.rel, k4, fun y H10 qE ry => ?_⟩
                have q6 := q5.trans qE
                have hD10 := q6.bars px7.rel (.inr rfl) hD7
                have q7 := q6.trans (q6.rel.wipe vs1)
                rw [hw2] at q7
                have ry2 := Rp.ft (qE.rel.wipe vs1).zs _ _ ry
                rw [hw2] at ry2
                have hz : bvs.length < sizeLine := by
                  have h1 := hacc7.length
                  rw [List.length_append] at h1
                  have h2 : r.length = acc.length + (pre ++ xd :: r'' ++ r').length := by rw [hr, hxs, List.length_append]
                  simp only [List.length_append, List.length_cons] at h2
                  omega
                refine ⟨bvs, hD10, hz, ?_⟩
                rw [hPw]
                refine ⟨u3, pre ++ [xd], bvs ++ [y], r'', (px7.step q7).write hD, (fz7.trans q7.zs).trans (fw _ _ _ _), upd_same, ?_, k5, by rw [hxs, List.append_assoc]; rfl⟩
                rw [← List.append_assoc]
                exact (RpL.ft (fw _ _ _ _) _ _ (RpL.ft q7.zs _ _ hacc7)).append (RpL.cons (Rp.ft (fw _ _ _ _) _ _ ry2) RpL.nil)
            · have ej : j = ds2.length := by omega
              subst ej
              refine .inl ⟨wk2.stops H7 gy2.1, ?_⟩
              rw [List.drop_length] at hgo7
              simp only [lcGo] at hgo7
              cases hgo7
              rw [List.append_nil] at hxs
              subst hxs
              have q6 := px7.rel.wipe vs
              have ew : wipe (wipe σ2 vs1) vs = wipe σ vs := (wipe_eq (fun j hj => wipe_out fun z => hj (hsl2 j z)) (wipe_length _ _)).trans hw
              have es : wipeS (wipeS env3 vs1) vs = wipeS env3 vs := wipeS_eq (fun j hj => wipeS_out fun z => hj (hsl2 j z)) (wipeS_length _ _)
              rw [ew, es] at q6
              rw [hPv]
              exact ⟨env3, acc ++ xs, bvs, r', px7.step q6, q6.bars px7.rel (.inr rfl) hD7, RpL.ft q6.zs _ _ hacc7, g5, by rw [hr, List.append_assoc]⟩
        · have ei : i = ds.length := by omega
          subst ei
          refine .inl ⟨wk.stops H2 gy.1, ?_⟩
          rw [List.drop_length] at hgo
          simp only [lcGo2] at hgo
          cases hgo
          rw [List.append_nil] at hr
          subst hr
          obtain ⟨R4, ow4, l4⟩ := R1.back hfl.1 px.rel px.fz
          have zs4 : ∀ b, Zs σ (back e1 e2 vs) (bar Ex1 D) b → Zs (wipe σ vs) (wipeS e2 vs) (bar Ex1 D) b := fun b z => z.imp (ow4 b) _root_.id
          have nD : ∀ a, Ex1 a → ¬ a = D := fun a x e => by subst e; exact R1.ext a x hD
          obtain ⟨R5, f5, l5, z5⟩ := fin (fun a => a = D) H2 σ (back e1 e2 vs) env' nD R4 (px.ft.trans (Ft.less ow4)) (fun j q => ⟨(px.lent j (l4 j q).1).1, rfl⟩) (px.fz.trans (Ft.less zs4)) h3
          have n := hnone D (.inl hD)
          have ps : Pst X.K io (bar Ex D) H σ env H2 σ env' := ⟨R5, f5, l5⟩
          obtain ⟨p6, R6⟩ := Pst.unbar (H3 := H2) R n ps (fun _ _ e => e) (fun _ _ e _ => e) (by rw [hDl]; simp)
          exact k D H2 p6 R6 n ⟨avs, hDl, RpL.ft (Ft.less fun b z => zs4 b (z5 b z)) _ _ hacc⟩
      · cases ev
    · cases ev
  · cases ev
theorem s_lc2 (hcalm : X.calm = true) (hN : X.N.Nodup) (hi : PI X tgE iter (TI1 X io cf ci)) (ok : BlkOk X.N X.env.scope scope own) (hs : noSet iter = true) (hs2 : noSet iter2 = true) (hsl : ∀ j ∈ slotsT tg, j ∈ own.map (·.2)) (hsl2 : ∀ j ∈ slotsT tg2, j ∈ own.map (·.2))
    (hg : ∀ (s : Shared) (H : Hp) (C : Addr) (cl : List (Str × Addr)) (fp : List Addr), PG (X.blk s H scope (compEnvC scope cl C X.env) fp) tgE (TGo X.K io tg))
    (ht : ∀ (s : Shared) (H : Hp) (C : Addr) (cl : List (Str × Addr)) (fp : List Addr), PTs (X.blk s H scope (compEnvC scope cl C X.env) fp) ifs (TBo X io cf co))
    (hi2 : ∀ (s : Shared) (H : Hp) (C : Addr) (cl : List (Str × Addr)) (fp : List Addr), PI (X.blk s H scope (compEnvC scope cl C X.env) fp) tgE2 iter2 (TI2 X io cf ci2))
    (hg2 : ∀ (s : Shared) (H : Hp) (C : Addr) (cl : List (Str × Addr)) (fp : List Addr), PG (X.blk s H scope (compEnvC scope cl C X.env) fp) tgE2 (TGo X.K io tg2))
    (ht2 : ∀ (s : Shared) (H : Hp) (C : Addr) (cl : List (Str × Addr)) (fp : List Addr), PTs (X.blk s H scope (compEnvC scope cl C X.env) fp) ifs2 (TBo X io cf co2))
    (he : ∀ (s : Shared) (H : Hp) (C : Addr) (cl : List (Str × Addr)) (fp : List Addr), PE (X.blk s H scope (compEnvC scope cl C X.env) fp) elt (TE1 X io cf ce)) :
    PE X (.ListComp elt [⟨tgE, iter, ifs, 0⟩, ⟨tgE2, iter2, ifs2, 0⟩] scope pos) (TF1 X io cf (.lc2 ce tg ci co tg2 ci2 co2 (own.map (·.2)) (slotsT tg2))) := by
  exact (pe_lc2 hcalm hN hi ok hsl2 hg ht hi2 hg2 ht2 he (folded_ok hs) (fun _ => folded_ok hs2)).imp (lc2_tr hsl hsl2)
end
end Cv
end

section
/-! CvT: calls. -/
set_option autoImplicit false
set_option linter.all false
set_option maxRecDepth 100000
namespace Cv
open PySem PySem.Spec L2
theorem Rel.newbarS {K : PySem.W.Frag} {io : Nat → Option Addr} {Ex : Addr → Prop} {H H' : Hp} {σ : St} {env : Env} {p : Addr} (R : Rel K io Ex H σ env) (sm : Same H H') (n : H p = none) (h : H' p ≠ none) : Rel K io (bar Ex p) H' σ env :=
  R.re (fun b u e nz => ⟨sm b u e, fun z => z.elim (fun z => nz (.inl z)) fun z => z.elim (fun z => nz (.inr z)) fun z => by subst z; rw [n] at e; cases e⟩)
    (fun a o => ⟨fun u e => sm a u e, fun z => z.elim (fun z => by obtain ⟨i, o⟩ := o; exact (R.ow o).1 z) fun z => by subst z; exact R.fresh n (.inl o)⟩)
    (fun _ _ _ _ x => .inl x) fun a z => z.elim (fun z => by
      cases q : H a with
      | none => exact absurd q (R.ext a z)
      | some u => rw [sm a u q]; simp) fun z => by subst z; exact h
section
variable {X : Cx} {io : Nat → Option Addr} {cf : CallF} {a e : Expr} {es : List Expr} {cs : CEs} {pos p q : Pos} {x : Str} {k : Fk} {np j i lev : Nat}
theorem evL_len : ∀ {cs : List CE} {env env' : Env} {ds : List D}, evL cf (toCEs cs) env = some (ds, env') → ds.length = cs.length
  | [], env, env', ds, h => by simp only [toCEs, evL] at h; cases h; rfl
  | c :: cs, env, env', ds, h => by
    simp only [toCEs, evL] at h
    split at h
    · cases h
    split at h
    · cases h
    rename_i h2
    cases h
    rw [List.length_cons, List.length_cons, evL_len h2]
theorem s_call (c : C8.Cal X.prog X.w X.K X.mg X.base lev x (spF X.K .v np (cf j)) []) (hr : Room lev X.A) (hg : Gl X x) (hdb : (x == ("__debug__" : Str)) = false) (hl : ∀ ds r, cf j ds = some r → ds.length = np)
    (hs : ∀ y ∈ e :: es, noStar y = true) (ha : PA X (e :: es) (TL1 X io cf cs)) : PE X (.Call (.Name x p) (e :: es) [] pos) (TE1 X io cf (.call j cs)) := by
  refine (C8.pe_c c hr (Nat.le_refl _) hg ha hdb (star_cons (hs e List.mem_cons_self)) (star_any fun y hy => hs y (List.mem_cons_of_mem _ hy))).imp fun σ H Q h => ?_
  obtain ⟨Ex, env, d, env', R, ev, k⟩ := h
  simp only [evE] at ev
  split at ev
  · cases ev
  rename_i ds e1 h1
  split at ev
  · cases ev
  rename_i r o h2
  cases ev
  refine ⟨Ex, env, ds, _, R, h1, fun vs H1 p1 o1 => ?_⟩
  show spF X.K _ np (cf j) (vs ++ []) H1 Q C8.E0
  rw [List.append_nil]
  exact ⟨by rw [o1.length, hl _ _ h2], Zs σ _ Ex, ds, d, o, fun a z => p1.rel.there z, o1, h2, fun v H' sm r => k v H' (p1.trans (p1.rel.pst_same sm)) r⟩
theorem pa_var {y : Str} {qs : List Expr} {t : TA} (hv : PE X (.Name y q) (tVar i)) (ha : PA X qs t) : PA X (.Name y q :: qs) (tCons (tVar i) t) := pa_cons hv ha (star_cons rfl)
theorem s_callR {y : Str} (c : C8.Cal X.prog X.w X.K X.mg X.base lev x (spF X.K .ro np (cf j)) []) (hr : Room lev X.A) (hg : Gl X x) (hdb : (x == ("__debug__" : Str)) = false) (hl : ∀ ds r, cf j ds = some r → ds.length = np)
    (hs : ∀ y ∈ es, noStar y = true) (hv : PE X (.Name y q) (tVar i)) (ha : PA X es (TL1 X io cf cs)) : PE X (.Call (.Name x p) (.Name y q :: es) [] pos) (TE1 X io cf (.callR j i cs)) := by
  refine (C8.pe_c c hr (Nat.le_refl _) hg (pa_var hv ha) hdb (star_cons rfl) (star_any hs)).imp fun σ H Q h => ?_
  obtain ⟨Ex, env, d, env', R, ev, k⟩ := h
  simp only [evE] at ev
  split at ev
  · rename_i ro
    split at ev
    · cases ev
    rename_i ds e1 h1
    split at ev
    · rename_i d0 h2
      split at ev
      · cases ev
      rename_i r o h3
      cases ev
      have : ∃ a, σ[i]? = some (some (.ref a)) := by
        unfold isRoS at ro
        split at ro
        · rename_i d1 q
          obtain ⟨a, us, xs, _, e, _⟩ := R.slot i _ q
          exact ⟨a, e⟩
        · cases ro
      obtain ⟨a, ea⟩ := this
      refine ⟨_, ea, Ex, env, ds, _, R, h1, fun vs H1 p1 o1 => ?_⟩
      show spF X.K _ np (cf j) ((V.ref a :: vs) ++ []) H1 Q C8.E0
      rw [List.append_nil]
      obtain ⟨a', us, xs, rfl, e', f, rl⟩ := p1.rel.slot i _ h2
      rw [ea] at e'
      cases e'
      have := hl _ _ h3
      exact ⟨by rw [← this, List.length_cons, List.length_cons, o1.length], Zs σ _ Ex, a, us, vs, xs, ds, d, o, fun a z => p1.rel.there z, rfl, f, rl, o1, h3, fun v H' sm r => k v H' (p1.trans (p1.rel.pst_same sm)) r⟩
    · cases ev
  · cases ev
theorem s_callN {y : Str} (c : C8.Cal X.prog X.w X.K X.mg X.base lev x (spF X.K .rn np (cf j)) []) (hr : Room lev X.A) (hg : Gl X x) (hdb : (x == ("__debug__" : Str)) = false) (hl : ∀ ds r, cf j ds = some r → ds.length = np)
    (hs : ∀ y ∈ es, noStar y = true) (hv : PE X (.Name y q) (tVar i)) (ha : PA X es (TL1 X io cf cs)) : PE X (.Call (.Name x p) (.Name y q :: es) [] pos) (TF1 X io cf (.callN j i cs)) := by
  refine (C8.pe_c c hr (Nat.le_refl _) hg (pa_var hv ha) hdb (star_cons rfl) (star_any hs)).imp fun σ H Q h => ?_
  obtain ⟨Ex, env, d, env', R, ev, k⟩ := h
  simp only [evE] at ev
  split at ev
  · rename_i ro
    split at ev
    · cases ev
    rename_i ds e1 h1
    split at ev
    · rename_i d0 h2
      split at ev
      · cases ev
      rename_i r o h3
      cases ev
      have : ∃ a, σ[i]? = some (some (.ref a)) := by
        unfold isRoS at ro
        split at ro
        · rename_i d1 q
          obtain ⟨a, us, xs, _, e, _⟩ := R.slot i _ q
          exact ⟨a, e⟩
        · cases ro
      obtain ⟨a, ea⟩ := this
      refine ⟨_, ea, Ex, env, ds, _, R, h1, fun vs H1 p1 o1 => ?_⟩
      show spF X.K _ np (cf j) ((V.ref a :: vs) ++ []) H1 Q C8.E0
      rw [List.append_nil]
      obtain ⟨a', us, xs, rfl, e', f, rl⟩ := p1.rel.slot i _ h2
      rw [ea] at e'
      cases e'
      have := hl _ _ h3
      refine ⟨by rw [← this, List.length_cons, List.length_cons, o1.length], Zs σ _ Ex, a, us, vs, xs, ds, d, o, fun a z => p1.rel.there z, rfl, f, rl, o1, h3, fun p H' sm hp c => ?_⟩
      have ps := p1.trans (p1.rel.pst_same sm)
      have R2 : Rel X.K io (bar Ex p) H' σ env' := p1.rel.newbarS sm hp c.there
      exact k p H' ps R2 (p1.ownOr hp) (c.ft (Ft.less fun b z => z.elim (fun z => .inl (.inl z)) fun z => z.elim (fun z => .inl (.inr z)) .inr) fun _ q => q)
    · cases ev
  · cases ev
theorem s_callT {y : Str} (c : C8.Cal X.prog X.w X.K X.mg X.base lev x (spF X.K .io np (cf j)) []) (hr : Room lev X.A) (hg : Gl X x) (hdb : (x == ("__debug__" : Str)) = false) (hl : ∀ ds r, cf j ds = some r → ds.length = np)
    (hs : ∀ y ∈ es, noStar y = true) (hv : PE X (.Name y q) (tVar i)) (ha : PA X es (TL1 X io cf cs)) : PE X (.Call (.Name x p) (.Name y q :: es) [] pos) (TE1 X io cf (.callT j i cs)) := by
  refine (C8.pe_c c hr (Nat.le_refl _) hg (pa_var hv ha) hdb (star_cons rfl) (star_any hs)).imp fun σ H Q h => ?_
  obtain ⟨Ex, env, d, env', R, ev, k⟩ := h
  simp only [evE] at ev
  split at ev
  · rename_i ro
    have : ∃ a, σ[i]? = some (some (.ref a)) := by
      unfold isObjS at ro
      split at ro
      · rename_i d1 q
        obtain ⟨a, e, _⟩ := R.slot i _ q
        exact ⟨a, e⟩
      · rename_i d1 q
        obtain ⟨a, _, e, _⟩ := R.slot i _ q
        exact ⟨a, e⟩
      · cases ro
    obtain ⟨a, ea⟩ := this
    split at ev
    · cases ev
    rename_i ds e1 h1
    have fin : ∀ (d0 r o : D) (s s' : Sl), e1[i]? = some s → PutS d0 o s s' → cf j (d0 :: ds) = some (r, o) → d = r → env' = e1.set i s' → tCall (spF X.K .io np (cf j)) [] C8.E0 (tCons (tVar i) (TL1 X io cf cs)) σ H Q := by
      intro d0 r o s s' hs1 hs2 h3 ed ee
      subst ed ee
      refine ⟨_, ea, Ex, env, ds, _, R, h1, fun vs H1 p1 o1 => ?_⟩
      show spF X.K _ np (cf j) ((V.ref a :: vs) ++ []) H1 Q C8.E0
      rw [List.append_nil]
      have oi : Own σ e1 i a := ⟨by
        rw [hs1]
        rcases hs2 with ⟨rfl, _⟩ | ⟨rfl, _⟩
        · exact ⟨d0, .inl rfl⟩
        · exact ⟨d0, .inr rfl⟩, ea⟩
      have hc : Ct X.K H1 (Zs σ e1 Ex) a d0 := by
        have sl := p1.rel.slot i _ hs1
        rcases hs2 with ⟨rfl, _⟩ | ⟨rfl, _⟩
        · obtain ⟨b, e', _, c'⟩ := sl
          rw [ea] at e'
          cases e'
          exact c'
        · obtain ⟨b, _, e', _, c'⟩ := sl
          rw [ea] at e'
          cases e'
          exact c'
      have := hl _ _ h3
      refine ⟨by rw [← this, List.length_cons, List.length_cons, o1.length], Zs σ e1 Ex, a, vs, d0, ds, d, o, fun a z => p1.rel.there z, rfl, .inl ⟨i, oi⟩, hc, o1, h3, fun v H' sm c' r => ?_⟩
      have ps := p1.rel.poke hs1 hs2 ea sm c'
      exact k v H' (p1.trans ps) (Rp.ft (Ft.less fun b z => z.imp (fun ⟨t, o⟩ => ⟨t, (own_put hs1 hs2 t b).1 o⟩) _root_.id) _ _ r)
    split at ev
    · rename_i d0 h2
      split at ev
      · cases ev
      rename_i r o h3
      cases ev
      exact fin d0 d o _ _ h2 (.inl ⟨rfl, rfl⟩) h3 rfl rfl
    · rename_i d0 h2
      split at ev
      · cases ev
      rename_i r o h3
      cases ev
      exact fin d0 d o _ _ h2 (.inr ⟨rfl, rfl⟩) h3 rfl rfl
    · cases ev
  · cases ev
end
end Cv
end

section
/-! CvU: what the compiler takes over is right: expressions. -/
set_option autoImplicit false
set_option linter.all false
set_option maxRecDepth 100000
set_option maxHeartbeats 1000000
namespace Cv
open PySem PySem.Spec L2

/-! ### surroundings of a block -/
theorem lookup_rel_cell {sc : Scope} : ∀ {names : List (Str × NameKind)} {x : Str}, names.lookup x = some .cell →
    (names.map fun (n, k) => if (k == NameKind.free && sc.kind == .function && sc.names.lookup n == some .cell) then (n, NameKind.cell) else (n, k)).lookup x = some .cell
  | [], _, h => by simp at h
  | (n, k) :: r, x, h => by
    have ih := @lookup_rel_cell sc r x
    rw [List.lookup_cons] at h
    rw [List.map_cons]
    by_cases e : (x == n) = true
    · rw [e] at h
      simp only at h
      cases h
      show List.lookup x ((n, NameKind.cell) :: _) = _
      rw [List.lookup_cons, e]
    · rw [Bool.not_eq_true] at e
      rw [e] at h
      simp only at h
      show List.lookup x ((if (k == NameKind.free && sc.kind == .function && sc.names.lookup n == some .cell) = true then (n, NameKind.cell) else (n, k)) :: _) = _
      split
      · rw [List.lookup_cons, e]; exact ih h
      · rw [List.lookup_cons, e]; exact ih h
theorem relSc_eq {scope : Scope} {env : PySem.Env} {sc : Scope} (h : env.scope = sc) : relabel scope env = relSc scope sc := by
  subst h
  rfl
section
variable {G : GI} {S : SC} {X : Cx} {cf : CallF} {lev : Nat} {scope : Scope}
theorem blkB_ok {N : List Str} {sc : Scope} {own : List (Str × Nat)} (h : blkB N sc scope own = true) : BlkOk N sc scope own := by
  unfold blkB at h
  simp only [Bool.and_eq_true, List.all_eq_true, decide_eq_true_eq] at h
  obtain ⟨⟨⟨h1, h2⟩, h3⟩, h4⟩ := h
  refine ⟨(by split at h1 <;> first | assumption | cases h1), h2, h3, fun y hy e => ?_, fun y hy e => ?_⟩
  · have := h4 y hy
    rw [e] at this
    simp only at this
    split at this
    · exact .inl (by assumption)
    · exact .inr (by assumption)
    · cases this
  · have := h4 y hy
    rcases e with e | e
    · rw [e] at this
      simpa using this
    · rw [e] at this
      simpa using this
theorem XOk.blk (k : XOk G S X cf lev) {own : List (Str × Nat)} (h : blkB S.N S.sc scope own = true) (s : Shared) (H : Hp) (C : Addr) (cl : List (Str × Addr)) (fp : List Addr) : XOk G (S.blk scope) (X.blk s H scope (compEnvC scope cl C X.env) fp) cf lev := by
  have hb := blkB_ok h
  have e : relabel scope X.env = relSc scope S.sc := relSc_eq k.sc
  have hn : (relabel scope X.env).names = (scope.names.map fun (n, k) => if (k == NameKind.free && X.env.scope.kind == .function && X.env.kindOf n == some .cell) then (n, NameKind.cell) else (n, k)) := rfl
  refine ⟨k.N, k.nd, e, hb.kind, k.calm, k.un, k.room, fun x hx => ?_, k.free, k.consts, k.fns, k.len⟩
  have hx' : scope.names.lookup x = some .local ∨ scope.names.lookup x = some .cell := by
    have h2 : stoB scope x = true := hx
    unfold stoB at h2
    split at h2
    · exact .inl (by assumption)
    · exact .inr (by assumption)
    · cases h2
  rcases hx' with q | q
  · have : (relabel scope X.env).names.lookup x = some .local := lookup_relabel_local q
    exact ⟨.inl this, .inr this⟩
  · have : (relabel scope X.env).names.lookup x = some .cell := lookup_rel_cell (sc := X.env.scope) q
    refine ⟨.inr this, .inl ?_⟩
    show (scope.names.lookup x == some .cell) = true
    rw [q]
    rfl
theorem XOk.gl (k : XOk G S X cf lev) {x : Str} (h : gloB S.sc x = true) : Gl X x := by
  unfold gloB at h
  split at h
  · rename_i e
    show X.env.scope.names.lookup x = _
    rw [k.sc]
    exact e
  · cases h
theorem XOk.blt (k : XOk G S X cf lev) {x : Str} (h : bltB G S x = true) : Gl X x ∧ X.mg x = none := by
  unfold bltB at h
  simp only [Bool.and_eq_true] at h
  exact ⟨k.gl h.1.1, k.free x (by simpa using h.1.2)⟩
theorem XOk.slot (k : XOk G S X cf lev) {x : Str} {i : Nat} {pos : Pos} (h : slotOf S x = some i) : PE X (.Name x pos) (tVar i) := by
  unfold slotOf at h
  split at h
  · rename_i e
    rw [Bool.and_eq_true] at e
    obtain ⟨h1, h2, _⟩ := okName_of e.2
    exact pe_var (by rw [k.N]; exact ixOf_ok h) (by rw [k.sc]; exact vis_of e.1) h1 h2
  · cases h
theorem XOk.st (k : XOk G S X cf lev) {io : Nat → Option Addr} {x : Str} {i : Nat} {pos : Pos} (h : slotSt S x = some i) : PG X (.Name x pos) (TGo X.K io (.name i)) ∧ PE X (.Name x pos) (tVar i) := by
  unfold slotSt at h
  split at h
  · rename_i e
    simp only [Bool.and_eq_true] at e
    obtain ⟨h1, h2, _⟩ := okName_of e.2
    obtain ⟨h3, h4⟩ := k.sto x e.1.1
    exact ⟨g_name k.nd (by rw [k.N]; exact ixOf_ok h) h3 h4, pe_var (by rw [k.N]; exact ixOf_ok h) (by rw [k.sc]; exact vis_of e.1.2) h1 h2⟩
  · cases h
theorem fnIx_ok : ∀ {fns : List (Str × Fk × Nat)} {x : Str} {j : Nat}, fnIx fns x = some j → ∃ k np, fns[j]? = some (x, k, np)
  | [], _, _, h => by simp [fnIx] at h
  | (y, k, np) :: r, x, j, h => by
    unfold fnIx at h
    split at h
    · rename_i e
      cases h
      subst e
      exact ⟨k, np, rfl⟩
    · cases q : fnIx r x with
      | none => rw [q] at h; cases h
      | some i =>
        rw [q] at h
        cases h
        obtain ⟨k, np, e⟩ := fnIx_ok q
        exact ⟨k, np, by simpa using e⟩
end

/-! ### targets -/
theorem cT_ok {G : GI} {cf : CallF} {lev : Nat} : ∀ n, (∀ (S : SC) (X : Cx) (io : Nat → Option Addr), XOk G S X cf lev → ∀ e t, cT n S e = some t → PG X e (TGo X.K io t) ∧ noStar e = true) ∧
    ∀ (S : SC) (X : Cx) (io : Nat → Option Addr), XOk G S X cf lev → ∀ es ts, cTs n S es = some ts → PGs X es (TGos X.K io ts) ∧ (∀ e ∈ es, noStar e = true) ∧ ts.length = es.length
  | 0 => ⟨fun _ _ _ _ _ _ h => by simp [cT] at h, fun _ _ _ _ _ _ h => by simp [cTs] at h⟩
  | n + 1 => by
    obtain ⟨h1, h2⟩ := cT_ok (G := G) (cf := cf) (lev := lev) n
    refine ⟨fun S X io ok e t h => ?_, fun S X io ok es ts h => ?_⟩
    · simp only [cT] at h
      split at h
      · rename_i x pos
        cases q : slotSt S x with
        | none => rw [q] at h; cases h
        | some i =>
          rw [q] at h
          cases h
          exact ⟨(ok.st q).1, rfl⟩
      · rename_i es _ pos
        cases q : cTs n S es with
        | none => rw [q] at h; cases h
        | some ts =>
          rw [q] at h
          cases h
          obtain ⟨k1, k2, k3⟩ := h2 S X io ok es ts q
          exact ⟨g_tup ok.calm k2 k3 k1, rfl⟩
      · cases h
    · simp only [cTs] at h
      split at h
      · cases h
        exact ⟨g_nil, fun _ z => by simp at z, rfl⟩
      · rename_i e r
        split at h
        · cases h
        rename_i t q1
        cases q : cTs n S r with
        | none => rw [q] at h; cases h
        | some ts =>
          rw [q] at h
          cases h
          obtain ⟨k1, k2, k3⟩ := h2 S X io ok r ts q
          obtain ⟨m1, m2⟩ := h1 S X io ok e t q1
          exact ⟨g_cons m2 m1 k1, fun y hy => (List.mem_cons.mp hy).elim (fun z => by rw [z]; exact m2) (k2 y), by rw [List.length_cons, List.length_cons, k3]⟩

/-! ### what an expression's translation is good for -/
structure EOk (X : Cx) (io : Nat → Option Addr) (cf : CallF) (e : Expr) (c : CE) : Prop where
  pe : PE X e (TE1 X io cf c)
  var : ∀ i, c = .var i → PE X e (tVar i)
  new : isFreshTop c = true → PE X e (TF1 X io cf c)
  ptF : PT X e (TBF X io cf c)
  ptT : PT X e (TBT X io cf c)
  pw : ∀ op vs pos, e = .BoolOp op vs pos → PW X e (TBF X io cf c)
section
variable {X : Cx} {io : Nat → Option Addr} {cf : CallF} {e : Expr} {c : CE}
theorem EOk.to (h : EOk X io cf e c) : PE X e (TO X io cf c) := s_opd h.pe h.var
theorem ptT_of (h : PT X e (TBF X io cf c)) (nv : ∀ i, c ≠ .var i) : PT X e (TBT X io cf c) := h.imp fun σ H Q q => by
  obtain ⟨Ex, env, b, env', R, ev, k⟩ := q
  exact ⟨Ex, env, b, env', R, by rw [← tst_tstF nv]; exact ev, k⟩
def PlainTr (e : Expr) (env : PySem.Env) : Prop := ∀ whole, isTrue e env whole = (do let v ← whole; standAt e.pos; holding [v] (truthy v))
theorem EOk.val (pe : PE X e (TE1 X io cf c)) (nv : ∀ i, c ≠ .var i) (nf : isFreshTop c = false) (he : PlainTr e X.env) (nb : ∀ op vs pos, e ≠ .BoolOp op vs pos) : EOk X io cf e c :=
  ⟨pe, fun i z => absurd z (nv i), fun z => (by rw [nf] at z; cases z), s_truthF pe he, ptT_of (s_truthF pe he) nv, fun _ _ _ z => absurd z (nb _ _ _)⟩
theorem EOk.fresh (tf : PE X e (TF1 X io cf c)) (nv : ∀ i, c ≠ .var i) (he : PlainTr e X.env) (nb : ∀ op vs pos, e ≠ .BoolOp op vs pos) : EOk X io cf e c :=
  have pe : PE X e (TE1 X io cf c) := tf.imp fun _ _ _ q => TF.of q
  ⟨pe, fun i z => absurd z (nv i), fun _ => tf, s_truthF pe he, ptT_of (s_truthF pe he) nv, fun _ _ _ z => absurd z (nb _ _ _)⟩
theorem EOk.test (pe : PE X e (TE1 X io cf c)) (nv : ∀ i, c ≠ .var i) (nf : isFreshTop c = false) (pt : PT X e (TBF X io cf c)) (pw : ∀ op vs pos, e = .BoolOp op vs pos → PW X e (TBF X io cf c)) : EOk X io cf e c :=
  ⟨pe, fun i z => absurd z (nv i), fun z => (by rw [nf] at z; cases z), pt, ptT_of pt nv, pw⟩
theorem EOk.name {i : Nat} {x : Str} {pos : Pos} (h : PE X (.Name x pos) (tVar i)) : EOk X io cf (.Name x pos) (.var i) :=
  ⟨s_var h, fun j z => by cases z; exact h, fun z => by simp [isFreshTop] at z, s_truthF (s_var h) fun _ => rfl, s_truth (s_opd (s_var h) fun j z => by cases z; exact h) fun _ => rfl, fun _ _ _ z => by cases z⟩
end
def HE (G : GI) (cf : CallF) (lev n : Nat) : Prop := ∀ (S : SC) (X : Cx) (io : Nat → Option Addr), XOk G S X cf lev → ∀ e c, cE G n S e = some c → EOk X io cf e c
def HL (G : GI) (cf : CallF) (lev n : Nat) : Prop := ∀ (S : SC) (X : Cx) (io : Nat → Option Addr), XOk G S X cf lev → ∀ es cs, cL G n S es = some cs → PA X es (TL1 X io cf (toCEs cs)) ∧ (∀ e ∈ es, noStar e = true)
def HO (G : GI) (cf : CallF) (lev n : Nat) : Prop := ∀ (S : SC) (X : Cx) (io : Nat → Option Addr), XOk G S X cf lev → ∀ o c, cO G n S o = some c → PO X o (TP X.K io (evO cf c))
def HF (G : GI) (cf : CallF) (lev n : Nat) : Prop := ∀ (S : SC) (X : Cx) (io : Nat → Option Addr), XOk G S X cf lev → ∀ es c, cIf G n S es = some c → PTs X es (TBo X io cf c)
def HP (G : GI) (cf : CallF) (lev n : Nat) : Prop := ∀ (S : SC) (X : Cx) (io : Nat → Option Addr), XOk G S X cf lev → ∀ ks vs c (pos : Pos), cP G n S ks vs = some c → ∃ trs, PPsOk X io cf pos ks vs c trs
def HI (G : GI) (cf : CallF) (lev n : Nat) : Prop := ∀ (S : SC) (X : Cx) (io : Nat → Option Addr), XOk G S X cf lev → ∀ e c, cI G n S e = some c → noSet e = true ∧ (∀ tg, PI X tg e (TI1 X io cf c)) ∧ ∀ tg, PI X tg e (TI2 X io cf (unOwn c))
section
variable {G : GI} {cf : CallF} {lev n : Nat}
theorem stepL (hE : HE G cf lev n) (hL : HL G cf lev n) : HL G cf lev (n + 1) := by
  intro S X io ok es cs h
  simp only [cL] at h
  split at h
  · cases h
    exact ⟨s_nil, fun _ z => by simp at z⟩
  · rename_i e r
    split at h
    · rename_i hs
      split at h
      · cases h
      rename_i c q1
      cases q : cL G n S r with
      | none => rw [q] at h; cases h
      | some cs' =>
        rw [q] at h
        cases h
        obtain ⟨k1, k2⟩ := hL S X io ok r cs' q
        exact ⟨s_cons hs (hE S X io ok e c q1).pe k1, fun y hy => (List.mem_cons.mp hy).elim (fun z => by rw [z]; exact hs) (k2 y)⟩
    · cases h
theorem stepO (hE : HE G cf lev n) : HO G cf lev (n + 1) := by
  intro S X io ok o c h
  simp only [cO] at h
  split at h
  · cases h
    exact s_noPart
  · rename_i e
    cases q : cE G n S e with
    | none => rw [q] at h; cases h
    | some c' =>
      rw [q] at h
      cases h
      exact s_part (hE S X io ok e c' q).pe
theorem _root_.L2.PTs.imp {X : Cx} {es : List Expr} {t t' : TT} (h : PTs X es t) (i : ∀ σ H Q, t' σ H Q → t σ H Q) : PTs X es t' := ⟨fun pins s σ H Q I hw => h.run pins s σ H Q I (i σ H Q hw)⟩
theorem stepF (hE : HE G cf lev n) : HF G cf lev (n + 1) := by
  intro S X io ok es c h
  simp only [cIf] at h
  split at h
  · cases h
    refine pts_nil.imp fun σ H Q q => ?_
    obtain ⟨Ex, env, b, env', R, ev, k⟩ := q
    simp only [evT] at ev
    cases ev
    exact k H (Pst.refl R)
  · rename_i e
    cases q : cE G n S e with
    | none => rw [q] at h; cases h
    | some c' =>
      rw [q] at h
      cases h
      refine (pts_one (hE S X io ok e c' q).ptT).imp fun σ H Q q => ?_
      obtain ⟨Ex, env, b, env', R, ev, k⟩ := q
      simp only [evT] at ev
      exact ⟨Ex, env, b, env', R, ev, k⟩
  · cases h
theorem stepP (hE : HE G cf lev n) (hP : HP G cf lev n) : HP G cf lev (n + 1) := by
  intro S X io ok ks vs c pos h
  simp only [cP] at h
  split at h
  · cases h
    exact ⟨_, s_pnil⟩
  · rename_i k kr v vr
    split at h
    · rename_i ck cv cr q1 q2 q3
      cases h
      obtain ⟨trs, hp⟩ := hP S X io ok kr vr cr pos q3
      exact ⟨_, s_pcons (hE S X io ok k ck q1).pe (hE S X io ok v cv q2).pe hp⟩
    · cases h
  · cases h
theorem stepI (hE : HE G cf lev n) : HI G cf lev (n + 1) := by
  intro S X io ok e c h
  simp only [cI] at h
  split at h
  · rename_i x pos
    cases q : slotOf S x with
    | none => rw [q] at h; cases h
    | some i =>
      rw [q] at h
      cases h
      exact ⟨rfl, fun tg => i_own (ok.slot q), fun tg => i_e (s_var (ok.slot q))⟩
  · rename_i x q args pos
    split at h
    · rename_i hx
      rw [Bool.and_eq_true] at hx
      have ex : x = "range" := by simpa using hx.1
      subst ex
      obtain ⟨hg, hm⟩ := ok.blt hx.2
      split at h
      · rename_i a
        split at h
        · rename_i hs
          cases q : cE G n S a with
          | none => rw [q] at h; cases h
          | some ca =>
            rw [q] at h
            cases h
            exact ⟨rfl, fun tg => toTIo (i_rng1 hg hm hs (hE S X io ok a ca q).pe) fun _ _ => rfl, fun tg => i_rng1 hg hm hs (hE S X io ok a ca q).pe⟩
        · cases h
      · rename_i a b
        split at h
        · rename_i hs
          rw [Bool.and_eq_true] at hs
          split at h
          · rename_i ca cb q1 q2
            cases h
            exact ⟨rfl, fun tg => toTIo (i_rng2 hg hm hs.1 hs.2 (hE S X io ok a ca q1).pe (hE S X io ok b cb q2).pe) fun _ _ => rfl, fun tg => i_rng2 hg hm hs.1 hs.2 (hE S X io ok a ca q1).pe (hE S X io ok b cb q2).pe⟩
          · cases h
        · cases h
      · cases h
    · cases q : cE G n S (.Call (.Name x q) args [] pos) with
      | none => rw [q] at h; cases h
      | some ca =>
        rw [q] at h
        cases h
        exact ⟨rfl, fun tg => toTIo (i_e (hE S X io ok _ ca q).pe) fun _ _ => rfl, fun tg => i_e (hE S X io ok _ ca q).pe⟩
  · split at h
    · rename_i hs
      cases q : cE G n S e with
      | none => rw [q] at h; cases h
      | some ca =>
        rw [q] at h
        cases h
        have k : ∀ tg, PI X tg e (TI2 X io cf (.e ca)) := fun tg => i_e (hE S X io ok _ ca q).pe
        exact ⟨hs, fun tg => toTIo (k tg) fun _ _ => rfl, k⟩
    · cases h
end
end Cv
end

section
/-! CvV: what the compiler takes over is right: the step for expressions. -/
set_option autoImplicit false
set_option linter.all false
set_option maxRecDepth 100000
set_option maxHeartbeats 1000000
namespace Cv
open PySem PySem.Spec L2
section
variable {G : GI} {cf : CallF} {lev n : Nat} {S : SC} {X : Cx} {io : Nat → Option Addr} {c : CE} {pos p : Pos}

theorem e_const {v : Const} {k : Nat} (h : (litOf v).map CE.lit = some c) : EOk X io cf (.Constant v k pos) c := by
  cases v with
  | none => cases h; exact .val (s_lit pe_non fun _ _ => rp_non) (fun _ z => by cases z) rfl (fun _ => rfl) fun _ _ _ z => by cases z
  | bool b => cases h; exact .val (s_lit pe_bl fun _ _ => rp_bl) (fun _ z => by cases z) rfl (fun _ => rfl) fun _ _ _ z => by cases z
  | int i => cases h; exact .val (s_lit pe_int fun _ _ => rp_int) (fun _ z => by cases z) rfl (fun _ => rfl) fun _ _ _ z => by cases z
  | str s =>
    cases h
    refine .val (s_lit pe_str fun H Z => ?_) (fun _ z => by cases z) rfl (fun _ => rfl) fun _ _ _ z => by cases z
    simp only [Rp]
  | _ => cases h
theorem e_name (ok : XOk G S X cf lev) {x : Str} (h : (match slotOf S x with
    | some i => some (CE.var i)
    | none => if gloB S.sc x && okName x then (G.consts.lookup x).map .lit else none) = some c) : EOk X io cf (.Name x pos) c := by
  split at h
  · rename_i i hi
    cases h
    exact .name (ok.slot hi)
  · split at h
    · rename_i hg
      rw [Bool.and_eq_true] at hg
      cases q : G.consts.lookup x with
      | none => rw [q] at h; cases h
      | some d =>
        rw [q] at h
        cases h
        obtain ⟨u, v, h1, h2, h3⟩ := ok.consts x d q
        exact .val (s_lit (pe_glob (ok.gl hg.1) h1 h2 (okName_of hg.2).1) h3) (fun _ z => by cases z) rfl (fun _ => rfl) fun _ _ _ z => by cases z
    · cases h
theorem e_bin (hE : HE G cf lev n) (ok : XOk G S X cf lev) {a b : Expr} {op : Operator} (h : (match bopOf op, cE G n S a, cE G n S b with
      | some o, some ca, some cb => some (CE.bin o ca cb)
      | _, _, _ => none) = some c) : EOk X io cf (.BinOp a op b pos) c := by
  split at h
  · rename_i o ca cb h1 h2 h3
    cases h
    exact .val (s_bin h1 (hE S X io ok a ca h2).to (hE S X io ok b cb h3).to) (fun _ z => by cases z) rfl (fun _ => rfl) fun _ _ _ z => by cases z
  · cases h
theorem e_neg (hE : HE G cf lev n) (ok : XOk G S X cf lev) {a : Expr} (h : (cE G n S a).map CE.neg = some c) : EOk X io cf (.UnaryOp .USub a pos) c := by
  cases q : cE G n S a with
  | none => rw [q] at h; cases h
  | some ca =>
    rw [q] at h
    cases h
    exact .val (s_neg (hE S X io ok a ca q).pe) (fun _ z => by cases z) rfl (fun _ => rfl) fun _ _ _ z => by cases z
theorem e_not (hE : HE G cf lev n) (ok : XOk G S X cf lev) {a : Expr} (h : (cE G n S a).map CE.nott = some c) : EOk X io cf (.UnaryOp .Not a pos) c := by
  cases q : cE G n S a with
  | none => rw [q] at h; cases h
  | some ca =>
    rw [q] at h
    cases h
    exact .test (s_not (hE S X io ok a ca q).to) (fun _ z => by cases z) rfl (s_notB (hE S X io ok a ca q).ptT) fun _ _ _ z => by cases z
theorem e_bool (hE : HE G cf lev n) (ok : XOk G S X cf lev) {op : BoolOp} {vs : List Expr} (h : (match vs with
      | [] => none
      | [a] => cE G n S a
      | a :: b :: r => match cE G n S a, cE G n S (.BoolOp op (b :: r) pos) with
        | some ca, some cb => some (match op with | .And => CE.andt ca cb | .Or => .ort ca cb)
        | _, _ => none) = some c) : EOk X io cf (.BoolOp op vs pos) c := by
  split at h
  · cases h
  · rename_i a
    have k := hE S X io ok a c h
    have pw : PW X (.BoolOp op [a] pos) (TBF X io cf c) := by
      cases op
      · exact pw_and1 k.ptF
      · exact pw_or1 k.ptF
    have pwT : PW X (.BoolOp op [a] pos) (TBT X io cf c) := by
      cases op
      · exact pw_and1 k.ptT
      · exact pw_or1 k.ptT
    have one : ∀ t : TE, PE X a t → PE X (.BoolOp op [a] pos) t := fun t q => pe_one q
    exact ⟨one _ k.pe, fun i z => one _ (k.var i z), fun z => one _ (k.new z), pw.pt, pwT.pt, fun op' vs' pos' z => by cases z; exact pw⟩
  · rename_i a b r
    split at h
    · rename_i ca cb h1 h2
      have ka := hE S X io ok a ca h1
      have kb := hE S X io ok _ cb h2
      cases h
      cases op with
      | And =>
        have pw := s_andB (pos := pos) ka.ptF (kb.pw _ _ _ rfl)
        exact .test (s_and ka.pe kb.pe) (fun _ z => by cases z) rfl pw.pt fun _ _ _ z => by cases z; exact pw
      | Or =>
        have pw := s_orB (pos := pos) ka.ptF (kb.pw _ _ _ rfl)
        exact .test (s_or ka.pe kb.pe) (fun _ z => by cases z) rfl pw.pt fun _ _ _ z => by cases z; exact pw
    · cases h
theorem e_cmp (hE : HE G cf lev n) (ok : XOk G S X cf lev) {a : Expr} {ops : List CmpOp} {cs : List Expr} (h : (match ops, cs with
      | [op], [b] => if noSet b then match cE G n S a, cE G n S b with
        | some ca, some cb => some (CE.cmp (copOf op) ca cb)
        | _, _ => none
        else none
      | [op, p], [b, c] => if noSet c then match cE G n S a, cE G n S b, cE G n S c with
        | some ca, some cb, some cc => some (.chain (copOf op) (copOf p) ca cb cc)
        | _, _, _ => none
        else none
      | _, _ => none) = some c) : EOk X io cf (.Compare a ops cs pos) c := by
  split at h
  · rename_i op b
    split at h
    · rename_i hs
      split at h
      · rename_i ca cb h1 h2
        cases h
        have ka := (hE S X io ok a ca h1).to
        have kb := (hE S X io ok b cb h2).to
        exact .test (s_cmp ok.un hs ka kb) (fun _ z => by cases z) rfl (s_cmpB ok.un hs ka kb) fun _ _ _ z => by cases z
      · cases h
    · cases h
  · rename_i op p b c'
    split at h
    · rename_i hs
      split at h
      · rename_i ca cb cc h1 h2 h3
        cases h
        have ka := (hE S X io ok a ca h1).pe
        have kb := (hE S X io ok b cb h2).pe
        have kc := (hE S X io ok c' cc h3).pe
        exact .test (s_chain ok.un hs ka kb kc) (fun _ z => by cases z) rfl (s_chainB ok.un hs ka kb kc) fun _ _ _ z => by cases z
      · cases h
    · cases h
  · cases h
theorem e_ite (hE : HE G cf lev n) (ok : XOk G S X cf lev) {t a b : Expr} (h : (match cE G n S t, cE G n S a, cE G n S b with
      | some cc, some ca, some cb => some (CE.ite cc ca cb)
      | _, _, _ => none) = some c) : EOk X io cf (.IfExp t a b pos) c := by
  split at h
  · rename_i cc ca cb h1 h2 h3
    cases h
    have kc := hE S X io ok t cc h1
    have ka := hE S X io ok a ca h2
    have kb := hE S X io ok b cb h3
    exact .test (s_ite kc.ptT ka.pe kb.pe) (fun _ z => by cases z) rfl (s_iteB kc.ptT ka.ptF kb.ptF) fun _ _ _ z => by cases z
  · cases h
theorem e_tup (hL : HL G cf lev n) (ok : XOk G S X cf lev) {es : List Expr} {k : Nat} (h : (cL G n S es).map (fun r => CE.tup (toCEs r)) = some c) : EOk X io cf (.Tuple es k pos) c := by
  cases q : cL G n S es with
  | none => rw [q] at h; cases h
  | some cs =>
    rw [q] at h
    cases h
    exact .val (s_tup (hL S X io ok es cs q).1) (fun _ z => by cases z) rfl (fun _ => rfl) fun _ _ _ z => by cases z
theorem e_lst (hL : HL G cf lev n) (ok : XOk G S X cf lev) {es : List Expr} (h : (cL G n S es).map (fun r => CE.lst (toCEs r)) = some c) : EOk X io cf (.List es pos) c := by
  cases q : cL G n S es with
  | none => rw [q] at h; cases h
  | some cs =>
    rw [q] at h
    cases h
    exact .fresh (s_lst (hL S X io ok es cs q).1) (fun _ z => by cases z) (fun _ => rfl) fun _ _ _ z => by cases z
theorem e_dict (hP : HP G cf lev n) (ok : XOk G S X cf lev) {ks : List (Option Expr)} {vs : List Expr} (h : (match ks, vs with
      | [], [] => some (CE.dct .nil)
      | _, _ => (cP G n S ks vs).map .dct) = some c) : EOk X io cf (.Dict ks vs pos) c := by
  split at h
  · cases h
    exact .fresh s_dct0 (fun _ z => by cases z) (fun _ => rfl) fun _ _ _ z => by cases z
  · rename_i hne
    cases q : cP G n S ks vs with
    | none => rw [q] at h; cases h
    | some cp =>
      rw [q] at h
      cases h
      obtain ⟨trs, hp⟩ := hP S X io ok ks vs cp pos q
      refine .fresh (s_dct (fun z => ?_) hp) (fun _ z => by cases z) (fun _ => rfl) fun _ _ _ z => by cases z
      subst z
      have := hp.len
      cases vs with
      | nil => exact hne rfl rfl
      | cons _ _ => cases this
theorem e_lc (hE : HE G cf lev n) (hF : HF G cf lev n) (hI : HI G cf lev n) (ok : XOk G S X cf lev) {elt : Expr} {gs : List Comprehension} {scope : Scope} (h : (match gs with
      | [⟨tg, it, ifs, 0⟩] =>
        if blkB S.N S.sc scope (ownOf S.N scope.names) then
          match cI G n S it, cT n (S.blk scope) tg, cE G n (S.blk scope) elt, cIf G n (S.blk scope) ifs with
          | some ci, some ct, some ce, some cf => if (slotsT ct).all (fun i => ((ownOf S.N scope.names).map (·.2)).contains i) then some (CE.lc ce ct ci ((ownOf S.N scope.names).map (·.2)) cf) else none
          | _, _, _, _ => none
        else none
      | [⟨tg, it, ifs, 0⟩, ⟨tg2, it2, ifs2, 0⟩] =>
        if blkB S.N S.sc scope (ownOf S.N scope.names) then
          match cI G n S it, cT n (S.blk scope) tg, cE G n (S.blk scope) elt, cIf G n (S.blk scope) ifs, cI G n (S.blk scope) it2, cT n (S.blk scope) tg2, cIf G n (S.blk scope) ifs2 with
          | some ci, some ct, some ce, some cf, some ci2, some ct2, some cf2 =>
            if (slotsT ct).all (fun i => ((ownOf S.N scope.names).map (·.2)).contains i) && (slotsT ct2).all (fun i => ((ownOf S.N scope.names).map (·.2)).contains i) then
              some (.lc2 ce ct ci cf ct2 (unOwn ci2) cf2 ((ownOf S.N scope.names).map (·.2)) (slotsT ct2)) else none
          | _, _, _, _, _, _, _ => none
        else none
      | _ => none) = some c) : EOk X io cf (.ListComp elt gs scope pos) c := by
  split at h
  · rename_i tg it ifs
    split at h
    · rename_i hb
      split at h
      · rename_i ci ct ce cf' h1 h2 h3 h4
        split at h
        · rename_i hsl
          cases h
          rw [List.all_eq_true] at hsl
          obtain ⟨i1, i2, _⟩ := hI S X io ok it ci h1
          have kb := fun s H C cl fp => ok.blk hb s H C cl fp
          refine .fresh (s_lc ok.calm ok.nd (i2 tg) (by have := blkB_ok hb; rw [← ok.N, ← ok.sc] at this; rw [← ok.N]; exact this) i1 (fun j hj => by simpa using hsl j hj)
            (fun s H C cl fp => ((cT_ok n).1 _ _ io (kb s H C cl fp) tg ct h2).1) (fun s H C cl fp => hF _ _ io (kb s H C cl fp) ifs cf' h4) (fun s H C cl fp => (hE _ _ io (kb s H C cl fp) elt ce h3).pe)) (fun _ z => by cases z) (fun _ => rfl) fun _ _ _ z => by cases z
        · cases h
      · cases h
    · cases h
  · rename_i tg it ifs tg2 it2 ifs2
    split at h
    · rename_i hb
      split at h
      · rename_i ci ct ce cf' ci2 ct2 cf2 h1 h2 h3 h4 h5 h6 h7
        split at h
        · rename_i hsl
          cases h
          rw [Bool.and_eq_true, List.all_eq_true, List.all_eq_true] at hsl
          obtain ⟨i1, i2, _⟩ := hI S X io ok it ci h1
          have kb := fun s H C cl fp => ok.blk hb s H C cl fp
          have j1 : noSet it2 = true := (hI _ _ io (kb X.s_0 (fun _ => none) 0 [] []) it2 ci2 h5).1
          refine .fresh (s_lc2 ok.calm ok.nd (i2 tg) (by have := blkB_ok hb; rw [← ok.N, ← ok.sc] at this; rw [← ok.N]; exact this) i1 j1 (fun j hj => by simpa using hsl.1 j hj) (fun j hj => by simpa using hsl.2 j hj)
            (fun s H C cl fp => ((cT_ok n).1 _ _ io (kb s H C cl fp) tg ct h2).1) (fun s H C cl fp => hF _ _ io (kb s H C cl fp) ifs cf' h4) (fun s H C cl fp => (hI _ _ io (kb s H C cl fp) it2 ci2 h5).2.2 tg2)
            (fun s H C cl fp => ((cT_ok n).1 _ _ io (kb s H C cl fp) tg2 ct2 h6).1) (fun s H C cl fp => hF _ _ io (kb s H C cl fp) ifs2 cf2 h7) (fun s H C cl fp => (hE _ _ io (kb s H C cl fp) elt ce h3).pe)) (fun _ z => by cases z) (fun _ => rfl) fun _ _ _ z => by cases z
        · cases h
      · cases h
    · cases h
  · cases h
end
end Cv
end

section
/-! CvW: what the compiler takes over is right: subscripts, calls; all expressions. -/
set_option autoImplicit false
set_option linter.all false
set_option maxRecDepth 100000
set_option maxHeartbeats 4000000
namespace Cv
open PySem PySem.Spec L2
section
variable {G : GI} {cf : CallF} {lev n : Nat} {S : SC} {X : Cx} {io : Nat → Option Addr} {c : CE} {pos p : Pos}
theorem e_sub (hE : HE G cf lev n) (hO : HO G cf lev n) (ok : XOk G S X cf lev) {a ix : Expr} (h : cE G (n + 1) S (.Subscript a ix pos) = some c) : EOk X io cf (.Subscript a ix pos) c := by
  simp only [cE] at h
  split at h
  · rename_i k q1 q2 q3
    cases q : cE G n S a with
    | none => rw [q] at h; cases h
    | some ca =>
      rw [q] at h
      cases h
      exact .val (s_rev (hE S X io ok a ca q).to) (fun _ z => by cases z) rfl (fun _ => rfl) fun _ _ _ z => by cases z
  · rename_i lo hi q1
    split at h
    · rename_i ca cl ch h1 h2 h3
      cases h
      exact .val (s_sl (hE S X io ok a ca h1).to (hO S X io ok lo cl h2) (hO S X io ok hi ch h3)) (fun _ z => by cases z) rfl (fun _ => rfl) fun _ _ _ z => by cases z
    · cases h
  · cases h
  · rename_i n1 n2 n3
    have hs : noSlice ix = true := by
      cases ix <;> first | rfl | exact absurd rfl (n3 _ _ _ _)
    split at h
    · rename_i ca ci h1 h2
      cases h
      exact .val (s_ix ok.un hs (hE S X io ok a ca h1).to (hE S X io ok ix ci h2).pe) (fun _ z => by cases z) rfl (fun _ => rfl) fun _ _ _ z => by cases z
    · cases h
theorem e_fn (hE : HE G cf lev n) (hL : HL G cf lev n) (ok : XOk G S X cf lev) {x : Str} {j : Nat} {args : List Expr} (hj : fnIx G.fns x = some j) (h : (if gloB S.sc x && okName x then match G.fns[j]? with
              | some (_, k, np) => if args.length == np && Nat.ble 1 np then match k, args with
                  | .v, _ => (cL G n S args).map fun r => CE.call j (toCEs r)
                  | .io, .Name y _ :: r => match slotOf S y, cL G n S r with
                    | some i, some c => some (.callT j i (toCEs c))
                    | _, _ => none
                  | .ro, .Name y _ :: r => match slotOf S y, cL G n S r with
                    | some i, some c => some (.callR j i (toCEs c))
                    | _, _ => none
                  | .rn, .Name y _ :: r => match slotOf S y, cL G n S r with
                    | some i, some c => some (.callN j i (toCEs c))
                    | _, _ => none
                  | _, _ => none
                else none
              | none => none
            else none) = some c) : EOk X io cf (.Call (.Name x p) args [] pos) c := by
  split at h
  · rename_i hg
    rw [Bool.and_eq_true] at hg
    have hdb := (okName_of hg.2).1
    have hgl := ok.gl hg.1
    obtain ⟨k, np, hk⟩ := fnIx_ok hj
    rw [hk] at h
    simp only at h
    have cal := ok.fns j x k np hk
    have hl := ok.len j x k np hk
    split at h
    · rename_i ha
      rw [Bool.and_eq_true] at ha
      split at h
      · cases q : cL G n S args with
        | none => rw [q] at h; cases h
        | some cs =>
          rw [q] at h
          cases h
          obtain ⟨k1, k2⟩ := hL S X io ok args cs q
          cases args with
          | nil =>
            have h1 : (0 : Nat) = np := by simpa using ha.1
            have h2 := Nat.le_of_ble_eq_true ha.2
            omega
          | cons e es => exact .val (s_call cal ok.room hgl hdb hl k2 k1) (fun _ z => by cases z) rfl (fun _ => rfl) fun _ _ _ z => by cases z
      · rename_i y q r
        split at h
        · rename_i i cs h1 h2
          cases h
          obtain ⟨k1, k2⟩ := hL S X io ok r cs h2
          exact .val (s_callT cal ok.room hgl hdb hl k2 (ok.slot h1) k1) (fun _ z => by cases z) rfl (fun _ => rfl) fun _ _ _ z => by cases z
        · cases h
      · rename_i y q r
        split at h
        · rename_i i cs h1 h2
          cases h
          obtain ⟨k1, k2⟩ := hL S X io ok r cs h2
          exact .val (s_callR cal ok.room hgl hdb hl k2 (ok.slot h1) k1) (fun _ z => by cases z) rfl (fun _ => rfl) fun _ _ _ z => by cases z
        · cases h
      · rename_i y q r
        split at h
        · rename_i i cs h1 h2
          cases h
          obtain ⟨k1, k2⟩ := hL S X io ok r cs h2
          exact .fresh (s_callN cal ok.room hgl hdb hl k2 (ok.slot h1) k1) (fun _ z => by cases z) (fun _ => rfl) fun _ _ _ z => by cases z
        · cases h
      · cases h
    · cases h
  · cases h
theorem nf_b1 {f : B1} {ca : CE} (h1 : f ≠ .list) (h2 : f ≠ .sorted) : isFreshTop (.b1 f ca) = false := by
  cases f <;> first | rfl | exact absurd rfl h1 | exact absurd rfl h2
theorem e_b1 (hE : HE G cf lev n) (ok : XOk G S X cf lev) {x : Str} {a : Expr} {f : B1} (hb : bltB G S x = true) (hf : b1Of x = some f) (hs : noStar a = true) (h : (cE G n S a).map (CE.b1 f) = some c) : EOk X io cf (.Call (.Name x p) [a] [] pos) c := by
  cases q : cE G n S a with
  | none => rw [q] at h; cases h
  | some ca =>
    rw [q] at h
    cases h
    obtain ⟨hg, hm⟩ := ok.blt hb
    have ka := (hE S X io ok a ca q).to
    by_cases hl : f = .list ∨ f = .sorted
    · exact .fresh (s_b1F hf hl ok.un hg hm hs ka) (fun _ z => by cases z) (fun _ => rfl) fun _ _ _ z => by cases z
    · rw [not_or] at hl
      exact .val (s_b1 hf ok.calm ok.un hg hm hs ka) (fun _ z => by cases z) (nf_b1 hl.1 hl.2) (fun _ => rfl) fun _ _ _ z => by cases z
theorem e_blt (hE : HE G cf lev n) (ok : XOk G S X cf lev) {x : Str} {args : List Expr} (h : (if bltB G S x then match args with
              | [a] =>
                if x = "list" then match a with
                  | .Call (.Name y _) [b] [] _ => if y = "range" && bltB G S y && noStar b then (cE G n S b).map CE.lstRng else (cE G n S a).map (.b1 .list)
                  | _ => if noStar a then (cE G n S a).map (.b1 .list) else none
                else if x = "tuple" then match a with
                  | .Call (.Name y _) [b] [] _ => if y = "reversed" && bltB G S y && noStar b then (cE G n S b).map CE.trev else (cE G n S a).map (.b1 .tuple)
                  | _ => if noStar a then (cE G n S a).map (.b1 .tuple) else none
                else match b1Of x with
                  | some k => if noStar a then (cE G n S a).map (.b1 k) else none
                  | none => none
              | [a, b] => if x = "min" && noStar a && noStar b then match cE G n S a, cE G n S b with
                  | some ca, some cb => some (.min2 ca cb)
                  | _, _ => none
                else if x = "max" && noStar a && noStar b then match cE G n S a, cE G n S b with
                  | some ca, some cb => some (.max2 ca cb)
                  | _, _ => none
                else none
              | _ => none
            else none) = some c) : EOk X io cf (.Call (.Name x p) args [] pos) c := by
  split at h
  · rename_i hb
    split at h
    · rename_i a
      split at h
      · rename_i hx
        subst hx
        split at h
        · rename_i y q b q2
          split at h
          · rename_i hy
            simp only [Bool.and_eq_true, decide_eq_true_eq] at hy
            obtain ⟨⟨rfl, hb2⟩, hs⟩ := hy
            obtain ⟨hg, hm⟩ := ok.blt hb
            obtain ⟨hg2, hm2⟩ := ok.blt hb2
            cases q : cE G n S b with
            | none => rw [q] at h; cases h
            | some cb =>
              rw [q] at h
              cases h
              exact .fresh (s_lstRng ok.calm hg hm hg2 hm2 hs (hE S X io ok b cb q).pe) (fun _ z => by cases z) (fun _ => rfl) fun _ _ _ z => by cases z
          · exact e_b1 hE ok hb rfl rfl h
        · split at h
          · rename_i hs
            exact e_b1 hE ok hb rfl hs h
          · cases h
      · split at h
        · rename_i hx
          subst hx
          split at h
          · rename_i y q b q2
            split at h
            · rename_i hy
              simp only [Bool.and_eq_true, decide_eq_true_eq] at hy
              obtain ⟨⟨rfl, hb2⟩, hs⟩ := hy
              obtain ⟨hg, hm⟩ := ok.blt hb
              obtain ⟨hg2, hm2⟩ := ok.blt hb2
              cases q : cE G n S b with
              | none => rw [q] at h; cases h
              | some cb =>
                rw [q] at h
                cases h
                exact .val (s_trev ok.calm hg hm hg2 hm2 hs (hE S X io ok b cb q).pe) (fun _ z => by cases z) rfl (fun _ => rfl) fun _ _ _ z => by cases z
            · exact e_b1 hE ok hb rfl rfl h
          · split at h
            · rename_i hs
              exact e_b1 hE ok hb rfl hs h
            · cases h
        · split at h
          · rename_i k hk
            split at h
            · rename_i hs
              exact e_b1 hE ok hb hk hs h
            · cases h
          · cases h
    · rename_i a b
      split at h
      · rename_i hx
        simp only [Bool.and_eq_true, decide_eq_true_eq] at hx
        obtain ⟨⟨rfl, hs⟩, ht⟩ := hx
        obtain ⟨hg, hm⟩ := ok.blt hb
        split at h
        · rename_i ca cb h1 h2
          cases h
          exact .val (s_min2 ok.calm hg hm hs ht (hE S X io ok a ca h1).pe (hE S X io ok b cb h2).pe) (fun _ z => by cases z) rfl (fun _ => rfl) fun _ _ _ z => by cases z
        · cases h
      · split at h
        · rename_i hx
          simp only [Bool.and_eq_true, decide_eq_true_eq] at hx
          obtain ⟨⟨rfl, hs⟩, ht⟩ := hx
          obtain ⟨hg, hm⟩ := ok.blt hb
          split at h
          · rename_i ca cb h1 h2
            cases h
            exact .val (s_max2 ok.calm hg hm hs ht (hE S X io ok a ca h1).pe (hE S X io ok b cb h2).pe) (fun _ z => by cases z) rfl (fun _ => rfl) fun _ _ _ z => by cases z
          · cases h
        · cases h
    · cases h
  · cases h
theorem e_meth (hE : HE G cf lev n) (ok : XOk G S X cf lev) {o : Expr} {m : Str} {apos cpos : Pos} {args : List Expr} (h : (if !(apos.endLine == cpos.line) || !noCall0 o then none else match args with
          | [a] =>
            if !noStar a then none else
            if m = "append" then match o with
              | .Name x _ => match slotOf S x, cE G n S a with
                | some i, some ca => some (CE.app i ca)
                | _, _ => none
              | _ => none
            else if m = "pop" then match o with
              | .Name x _ => match slotOf S x, cE G n S a with
                | some i, some ca => some (.popAt i ca)
                | _, _ => none
              | _ => none
            else if m = "join" then match cE G n S o, cE G n S a with
              | some co, some ca => some (.join co ca)
              | _, _ => none
            else if m = "index" then match cE G n S o, cE G n S a with
              | some co, some ca => some (.index co ca)
              | _, _ => none
            else none
          | [] => if m = "pop" then match o with
              | .Name x _ => (slotOf S x).map .pop
              | _ => none
            else none
          | _ => none) = some c) : EOk X io cf (.Call (.Attribute o m apos) args [] cpos) c := by
  split at h
  · cases h
  rename_i h0
  simp only [Bool.or_eq_true, Bool.not_eq_true', not_or, Bool.not_eq_false] at h0
  obtain ⟨hl, h0⟩ := h0
  split at h
  · rename_i a
    split at h
    · cases h
    rename_i hs
    have hs : noStar a = true := by simpa using hs
    split at h
    · rename_i hm
      subst hm
      split at h
      · rename_i x q
        split at h
        · rename_i i ca h1 h2
          cases h
          exact .val (s_app hl hs (ok.slot h1) (hE S X io ok a ca h2).pe) (fun _ z => by cases z) rfl (fun _ => rfl) fun _ _ _ z => by cases z
        · cases h
      · cases h
    split at h
    · rename_i hm
      subst hm
      split at h
      · rename_i x q
        split at h
        · rename_i i ca h1 h2
          cases h
          exact .val (s_popAt hl hs (ok.slot h1) (hE S X io ok a ca h2).pe) (fun _ z => by cases z) rfl (fun _ => rfl) fun _ _ _ z => by cases z
        · cases h
      · cases h
    split at h
    · rename_i hm
      subst hm
      split at h
      · rename_i co ca h1 h2
        cases h
        exact .val (s_join h0 hl hs (hE S X io ok o co h1).pe (hE S X io ok a ca h2).pe) (fun _ z => by cases z) rfl (fun _ => rfl) fun _ _ _ z => by cases z
      · cases h
    split at h
    · rename_i hm
      subst hm
      split at h
      · rename_i co ca h1 h2
        cases h
        exact .val (s_index ok.un h0 hl hs (hE S X io ok o co h1).to (hE S X io ok a ca h2).pe) (fun _ z => by cases z) rfl (fun _ => rfl) fun _ _ _ z => by cases z
      · cases h
    · cases h
  · split at h
    · rename_i hm
      subst hm
      split at h
      · rename_i x q
        cases q2 : slotOf S x with
        | none => rw [q2] at h; cases h
        | some i =>
          rw [q2] at h
          cases h
          exact .val (s_pop hl (ok.slot q2)) (fun _ z => by cases z) rfl (fun _ => rfl) fun _ _ _ z => by cases z
      · cases h
    · cases h
  · cases h
theorem e_call (hE : HE G cf lev n) (hL : HL G cf lev n) (ok : XOk G S X cf lev) {f : Expr} {args : List Expr} {kws : List Keyword} (h : cE G (n + 1) S (.Call f args kws pos) = some c) : EOk X io cf (.Call f args kws pos) c := by
  simp only [cE] at h
  split at h
  · split at h
    · rename_i x q
      split at h
      · rename_i j hj
        exact e_fn hE hL ok hj h
      · exact e_blt hE ok h
    · exact e_meth hE ok h
    · cases h
  · cases h
theorem stepE (hE : HE G cf lev n) (hL : HL G cf lev n) (hO : HO G cf lev n) (hF : HF G cf lev n) (hP : HP G cf lev n) (hI : HI G cf lev n) : HE G cf lev (n + 1) := by
  intro S X io ok e c h
  cases e with
  | Constant v k pos => simp only [cE] at h; exact e_const h
  | Name x pos => simp only [cE] at h; exact e_name ok h
  | BinOp a op b pos => simp only [cE] at h; exact e_bin hE ok h
  | UnaryOp op a pos =>
    cases op <;> simp only [cE] at h <;> first | exact e_neg hE ok h | exact e_not hE ok h | cases h
  | BoolOp op vs pos => simp only [cE] at h; exact e_bool hE ok h
  | Compare a ops cs pos => simp only [cE] at h; exact e_cmp hE ok h
  | IfExp t a b pos => simp only [cE] at h; exact e_ite hE ok h
  | Tuple es k pos => simp only [cE] at h; exact e_tup hL ok h
  | List es pos => simp only [cE] at h; exact e_lst hL ok h
  | Dict ks vs pos => simp only [cE] at h; exact e_dict hP ok h
  | ListComp elt gs scope pos => simp only [cE] at h; exact e_lc hE hF hI ok h
  | Subscript a ix pos => exact e_sub hE hO ok h
  | Call f args kws pos => exact e_call hE hL ok h
  | _ => simp [cE] at h
end
theorem all_ok (G : GI) (cf : CallF) (lev : Nat) : ∀ n, HE G cf lev n ∧ HL G cf lev n ∧ HO G cf lev n ∧ HF G cf lev n ∧ HP G cf lev n ∧ HI G cf lev n
  | 0 => ⟨fun _ _ _ _ _ _ h => by simp [cE] at h, fun _ _ _ _ _ _ h => by simp [cL] at h, fun _ _ _ _ _ _ h => by simp [cO] at h, fun _ _ _ _ _ _ h => by simp [cIf] at h, fun _ _ _ _ _ _ _ _ h => by simp [cP] at h, fun _ _ _ _ _ _ h => by simp [cI] at h⟩
  | n + 1 => by
    obtain ⟨h1, h2, h3, h4, h5, h6⟩ := all_ok G cf lev n
    exact ⟨stepE h1 h2 h3 h4 h5 h6, stepL h1 h2, stepO h1, stepF h1, stepP h1 h5, stepI h1⟩
end Cv
end

section
/-! CvX: several stores at once. -/
set_option autoImplicit false
set_option linter.all false
set_option maxRecDepth 100000
set_option maxHeartbeats 1000000
namespace Cv
open PySem PySem.Spec L2
section
variable {K : PySem.W.Frag} {io : Nat → Option Addr} {Ex : Addr → Prop} {H H1 H2 : Hp} {σ σ' : St} {env e1 e2 : Env} {q : Addr}
/-- a bar is let go of (what stands there is not looked at any more) -/
theorem Rel.drop {Ex' : Addr → Prop} (R' : Rel K io Ex' H σ env) (h : ∀ a, Ex a → Ex' a) (hl : ∀ (i : Nat) (a : Addr), env[i]? = some .lent → σ[i]? = some (some (.ref a)) → Ex a) : Rel K io Ex H σ env :=
  R'.re (Ft.less fun a z => z.imp _root_.id (h a)) (fun a o => ⟨fun _ q => q, fun z => by obtain ⟨i, o⟩ := o; exact (R'.ow o).1 (h a z)⟩) (fun i a e1 e2 _ => hl i a e1 e2) fun a z => R'.ext a (h a z)
theorem Rel.lentEx (R : Rel K io Ex H σ env) {i : Nat} {a : Addr} (h : env[i]? = some .lent) (e : σ[i]? = some (some (.ref a))) : Ex a := by
  obtain ⟨b, e', x⟩ := R.slot i _ h
  rw [e] at e'
  cases e'
  exact x
theorem Pst.drop {Ex' : Addr → Prop} (R : Rel K io Ex H1 σ e1) (h : ∀ a, Ex a → Ex' a) (p : Pst K io Ex' H1 σ e1 H2 σ' e2) : Pst K io Ex H1 σ e1 H2 σ' e2 :=
  ⟨p.rel.drop h fun i a l e => by
    obtain ⟨l1, l2⟩ := p.lent i l
    exact R.lentEx l1 (l2 ▸ e), p.ft, p.lent⟩
end
def MV (K : PySem.W.Frag) (H : Hp) (Z : Addr → Prop) : List Bool → List D → List V → List Addr → Prop
  | [], ds, vs, ps => ds = [] ∧ vs = [] ∧ ps = []
  | o :: os, ds, vs, ps => ∃ d ds' v vs', ds = d :: ds' ∧ vs = v :: vs' ∧ if o = true then ∃ p ps', ps = p :: ps' ∧ v = .ref p ∧ Ct K H Z p d ∧ MV K H Z os ds' vs' ps' else Rp K H Z d v ∧ MV K H Z os ds' vs' ps
theorem MV.ft {K : PySem.W.Frag} {H H' : Hp} {Z Z' : Addr → Prop} (f : Ft H Z H' Z') : ∀ {os : List Bool} {ds : List D} {vs : List V} {ps : List Addr}, (∀ p ∈ ps, ∀ o, H p = some o → H' p = some o) → MV K H Z os ds vs ps → MV K H' Z' os ds vs ps
  | [], _, _, _, _, h => h
  | o :: os, ds, vs, ps, hp, h => by
    obtain ⟨d, ds', v, vs', e1, e2, h⟩ := h
    refine ⟨d, ds', v, vs', e1, e2, ?_⟩
    by_cases ho : o = true
    · rw [if_pos ho] at h ⊢
      obtain ⟨p, ps', e3, e4, c, m⟩ := h
      subst e3
      exact ⟨p, ps', rfl, e4, c.ft f (hp p List.mem_cons_self), m.ft f fun q hq => hp q (List.mem_cons_of_mem _ hq)⟩
    · rw [if_neg ho] at h ⊢
      exact ⟨Rp.ft f _ _ h.1, h.2.ft f hp⟩
def addEx (Ex : Addr → Prop) (ps : List Addr) : Addr → Prop := fun a => Ex a ∨ a ∈ ps
theorem addEx_nil {Ex : Addr → Prop} : addEx Ex [] = Ex := by funext a; simp [addEx]
theorem addEx_cons {Ex : Addr → Prop} {p : Addr} {ps : List Addr} : addEx (bar Ex p) ps = addEx Ex (p :: ps) := by
  funext a
  simp only [addEx, bar, List.mem_cons, or_assoc]
theorem addEx_cons' {Ex : Addr → Prop} {p : Addr} {ps : List Addr} : addEx Ex (p :: ps) = bar (addEx Ex ps) p := by
  funext a
  simp only [addEx, bar, List.mem_cons]
  exact propext ⟨fun h => h.elim (fun h => .inl (.inl h)) fun h => h.elim .inr fun h => .inl (.inr h), fun h => h.elim (fun h => h.elim .inl fun h => .inr (.inr h)) fun h => .inr (.inl h)⟩
def TLm (K : PySem.W.Frag) (io : Nat → Option Addr) (os : List Bool) (ev : Env → Option (List D × Env)) : TA := fun σ H Q => ∃ (Ex : Addr → Prop) (env : Env) (ds : List D) (env' : Env), Rel K io Ex H σ env ∧ ev env = some (ds, env') ∧
  ∀ vs H' ps, Pst K io Ex H σ env H' σ env' → Rel K io (addEx Ex ps) H' σ env' → ps.Nodup → (∀ p ∈ ps, H p = none ∨ Ow σ env p) → MV K H' (Zs σ env' (addEx Ex ps)) os ds vs ps → Q vs H'
section
variable {X : Cx} {io : Nat → Option Addr} {cf : CallF} {e : Expr} {es : List Expr} {c : CE} {cs : CEs} {os : List Bool}
theorem m_nil : PA X [] (TLm X.K io [] (evL cf .nil)) := by
  refine pa_nil.imp fun σ H Q h => ?_
  obtain ⟨Ex, env, d, env', R, ev, k⟩ := h
  simp only [evL] at ev
  cases ev
  exact k [] H [] (Pst.refl R) (by rw [addEx_nil]; exact R) List.nodup_nil (fun _ z => by simp at z) ⟨rfl, rfl, rfl⟩
theorem ft_new {K : PySem.W.Frag} {Ex0 : Addr → Prop} {H1 H2 : Hp} {σ : St} {e1 e2 : Env} {ps : List Addr} (p2 : Pst K io Ex0 H1 σ e1 H2 σ e2) (n : ∀ q ∈ ps, H1 q = none ∨ Ow σ e1 q) : Ft H1 (Zs σ e1 Ex0) H2 (Zs σ e2 (addEx Ex0 ps)) := fun b u e nz => by
  obtain ⟨z1, z2⟩ := p2.ft b u e fun z => nz (.inl z)
  refine ⟨z1, fun z => z.elim z2 fun z => z.elim (fun z => nz (.inr z)) fun z => ?_⟩
  rcases n b z with n | n
  · rw [n] at e; cases e
  · exact nz (.inl n)
theorem m_cons (hs : noStar e = true) (he : PE X e (TE1 X io cf c)) (hr : PA X es (TLm X.K io os (evL cf cs))) : PA X (e :: es) (TLm X.K io (false :: os) (evL cf (.cons c cs))) := by
  refine (pa_cons he hr (star_cons hs)).imp fun σ H Q h => ?_
  obtain ⟨Ex, env, d, env', R, ev, k⟩ := h
  simp only [evL] at ev
  split at ev
  · cases ev
  rename_i x e1 h1
  split at ev
  · cases ev
  rename_i ds e2 h2
  cases ev
  exact ⟨Ex, env, x, e1, R, h1, fun v H1 p1 o1 => ⟨Ex, e1, ds, _, p1.rel, h2, fun vs H2 ps p2 R2 nd n m => k (v :: vs) H2 ps (p1.trans p2) R2 nd (fun q hq => p1.new (n q hq))
    ⟨x, ds, v, vs, rfl, rfl, by rw [if_neg Bool.false_ne_true]; exact ⟨Rp.ft (ft_new p2 n) _ _ o1, m⟩⟩⟩⟩
theorem m_consO (hs : noStar e = true) (he : PE X e (TF1 X io cf c)) (hr : PA X es (TLm X.K io os (evL cf cs))) : PA X (e :: es) (TLm X.K io (true :: os) (evL cf (.cons c cs))) := by
  refine (pa_cons he hr (star_cons hs)).imp fun σ H Q h => ?_
  obtain ⟨Ex, env, d, env', R, ev, k⟩ := h
  simp only [evL] at ev
  split at ev
  · cases ev
  rename_i x e1 h1
  split at ev
  · cases ev
  rename_i ds e2 h2
  cases ev
  refine ⟨Ex, env, x, e1, R, h1, fun p H1 p1 R1 np c1 => ⟨bar Ex p, e1, ds, _, R1, h2, fun vs H2 ps p2 R2 nd n m => ?_⟩⟩
  rw [addEx_cons] at R2 m
  have hp1 : H1 p ≠ none := c1.there
  have np2 : p ∉ ps := fun z => (n p z).elim hp1 fun ⟨i, o⟩ => (R1.ow o).1 (.inr rfl)
  refine k (.ref p :: vs) H2 (p :: ps) (p1.trans (Pst.drop p1.rel (fun a z => .inl z) p2)) R2 (List.nodup_cons.mpr ⟨np2, nd⟩) (fun q hq => (List.mem_cons.mp hq).elim (fun z => by rw [z]; exact np) fun z => p1.new (n q z)) ⟨x, ds, .ref p, vs, rfl, rfl, ?_⟩
  rw [if_pos rfl]
  have f := ft_new p2 n
  rw [addEx_cons] at f
  exact ⟨p, ps, rfl, rfl, c1.ft f fun o e => p2.bars R1 (.inr rfl) e, m⟩
end
def setAll (σ : St) : List Nat → List V → St
  | i :: is, v :: vs => setAll (σ.set i (some v)) is vs
  | _, _ => σ
theorem storeM_ok {K : PySem.W.Frag} {io : Nat → Option Addr} {Ex : Addr → Prop} {H0 H : Hp} {σ0 : St} {env0 : Env} (R0 : Rel K io Ex H0 σ0 env0) : ∀ (ts : List (Nat × Bool)) {σ : St} {env env' : Env} {ds : List D} {vs : List V} {ps : List Addr}, Pst K io Ex H0 σ0 env0 H σ env → Rel K io (addEx Ex ps) H σ env → ps.Nodup →
    (∀ p ∈ ps, H0 p = none ∨ Ow σ0 env0 p) → MV K H (Zs σ env (addEx Ex ps)) (ts.map (·.2)) ds vs ps → storeM ts ds env = some env' → Pst K io Ex H0 σ0 env0 H (setAll σ (ts.map (·.1)) vs) env'
  | [], σ, env, env', ds, vs, ps, P, R, nd, n, m, h => by
    obtain ⟨rfl, rfl, rfl⟩ := m
    simp only [storeM] at h
    cases h
    exact P
  | (i, o) :: ts, σ, env, env', ds, vs, ps, P, R, nd, n, m, h => by
    obtain ⟨d, ds', v, vs', rfl, rfl, m⟩ := m
    simp only [storeM] at h
    split at h
    · cases h
    split at h
    · cases h
    rename_i ev1 hs
    have m : if o = true then ∃ p ps', ps = p :: ps' ∧ v = .ref p ∧ Ct K H (Zs σ env (addEx Ex ps)) p d ∧ MV K H (Zs σ env (addEx Ex ps)) (ts.map (·.2)) ds' vs' ps' else Rp K H (Zs σ env (addEx Ex ps)) d v ∧ MV K H (Zs σ env (addEx Ex ps)) (ts.map (·.2)) ds' vs' ps := m
    cases o with
    | true =>
      rw [if_pos rfl] at m hs
      obtain ⟨p, ps', rfl, rfl, c, m⟩ := m
      obtain ⟨rfl, s0, hs0⟩ := store_inv hs
      rw [addEx_cons'] at R c m
      have nd' := List.nodup_cons.mp nd
      have nEx : ¬ addEx Ex ps' p := fun z => z.elim (fun z => (n p List.mem_cons_self).elim (R0.ext p z) fun ⟨j, o⟩ => (R0.ow o).1 z) nd'.1
      have R1 : Rel K io (addEx Ex ps') H σ env := R.drop (fun a z => .inl z) fun j a l e => .inl (P.rel.lentEx l e)
      obtain ⟨R2, ow⟩ := Rel.putOwn R1 R hs0 c nEx
      have P2 : Pst K io Ex H0 σ0 env0 H (σ.set i (some (.ref p))) (env.set i (.own d)) := by
        refine ⟨R2.drop (fun a z => .inl z) fun j a l e => ?_, fun b u e nb => ?_, fun j q => ?_⟩
        · by_cases hj : j = i
          · subst hj
            rw [set_at hs0] at l
            cases l
          · rw [set_off hj] at l e
            exact P.rel.lentEx l e
        · obtain ⟨z1, z2⟩ := P.ft b u e nb
          refine ⟨z1, fun z => (ow b z).elim z2 fun z => ?_⟩
          subst z
          rcases n b List.mem_cons_self with n | n
          · rw [n] at e; cases e
          · exact nb n
        · by_cases hj : j = i
          · subst hj
            rw [set_at hs0] at q
            cases q
          · rw [set_off hj] at q ⊢
            exact P.lent j q
      have zs : ∀ b, Zs (σ.set i (some (.ref p))) (env.set i (.own d)) (addEx Ex ps') b → Zs σ env (bar (addEx Ex ps') p) b := fun b z => z.elim (fun z => (ow b z).imp _root_.id .inr) fun z => .inr (.inl z)
      exact storeM_ok R0 ts P2 R2 nd'.2 (fun q hq => n q (List.mem_cons_of_mem _ hq)) (m.ft (Ft.less zs) fun _ _ _ e => e) h
    | false =>
      rw [if_neg Bool.false_ne_true] at m hs
      obtain ⟨r, m⟩ := m
      have p1 := R.store hs r
      have P2 : Pst K io Ex H0 σ0 env0 H (σ.set i (some v)) ev1 := P.trans (Pst.drop P.rel (fun a z => .inl z) p1)
      exact storeM_ok R0 ts P2 p1.rel nd n (m.ft p1.zs fun _ _ _ e => e) h
end Cv
end

section
/-! CvY: the statements' rules. -/
set_option autoImplicit false
set_option linter.all false
set_option maxRecDepth 100000
set_option maxHeartbeats 1000000
namespace Cv
open PySem PySem.Spec L2
section
variable (K : PySem.W.Frag) (io : Nat → Option Addr) (fr : Bool)
/-- what is wanted behind a statement -/
def Then (Ex : Addr → Prop) (H : Hp) (σ : St) (env env' : Env) (D : Ends) : Cv.Flow → Prop
  | .nx => ∀ σ' H', Pst K io Ex H σ env H' σ' env' → D.nx σ' H'
  | .bk => ∀ σ' H', Pst K io Ex H σ env H' σ' env' → D.bk σ' H'
  | .ct => ∀ σ' H', Pst K io Ex H σ env H' σ' env' → D.ct σ' H'
  | .rt d => if fr = true then ∀ σ' H' p, Pst K io Ex H σ env H' σ' env' → Rel K io (bar Ex p) H' σ' env' → (H p = none ∨ Ow σ env p) → Ct K H' (Zs σ' env' (bar Ex p)) p d → D.rt (.ref p) H'
      else ∀ σ' H' v, Pst K io Ex H σ env H' σ' env' → Rp K H' (Zs σ' env' Ex) d v → D.rt v H'
def TSo (ex : Env → RS) : TS := fun D σ H => ∃ (Ex : Addr → Prop) (env : Env) (fl : Cv.Flow) (env' : Env), Rel K io Ex H σ env ∧ ex env = some (fl, env') ∧ Then K io fr Ex H σ env env' D fl
end
section
variable {X : Cx} {io : Nat → Option Addr} {cf : CallF} {W : Nat} {fr : Bool} {a b e k : Expr} {ca c cc ck : CE} {cs : CEs} {pos p : Pos} {x : Str} {i : Nat} {st : Stmt} {sts : List Stmt} {s : CS} {ss : CSs}
theorem Then.pre {K : PySem.W.Frag} {Ex : Addr → Prop} {H H1 : Hp} {σ σ1 : St} {env env1 env' : Env} {D : Ends} {fl : Cv.Flow} (p : Pst K io Ex H σ env H1 σ1 env1) (t : Then K io fr Ex H σ env env' D fl) : Then K io fr Ex H1 σ1 env1 env' D fl := by
  cases fl with
  | nx => exact fun σ' H' q => t σ' H' (p.trans q)
  | bk => exact fun σ' H' q => t σ' H' (p.trans q)
  | ct => exact fun σ' H' q => t σ' H' (p.trans q)
  | rt d =>
    simp only [Then] at t ⊢
    cases fr with
    | true =>
      rw [if_pos rfl] at t ⊢
      exact fun σ' H' a q r n c => t σ' H' a (p.trans q) r (p.new n) c
    | false =>
      rw [if_neg Bool.false_ne_true] at t ⊢
      exact fun σ' H' v q r => t σ' H' v (p.trans q) r
abbrev TS1 (X : Cx) (io : Nat → Option Addr) (cf : CallF) (W : Nat) (fr : Bool) (c : CS) : TS := TSo X.K io fr (exS cf W c)
abbrev TSs1 (X : Cx) (io : Nat → Option Addr) (cf : CallF) (W : Nat) (fr : Bool) (c : CSs) : TS := TSo X.K io fr (exSs cf W c)
theorem _root_.L2.PSs.imp {X : Cx} {st : List Stmt} {t t' : TS} (h : PSs X st t) (i : ∀ D σ H, t' D σ H → t D σ H) : PSs X st t' := ⟨fun pins s σ H D I hw => h.run pins s σ H D I (i D σ H hw)⟩
theorem p_nil : PSs X [] (TSs1 X io cf W fr .nil) := by
  refine pss_nil.imp fun D σ H h => ?_
  obtain ⟨Ex, env, fl, env', R, ev, k⟩ := h
  simp only [exSs] at ev
  cases ev
  exact k σ H (Pst.refl R)
theorem p_cons (h1 : PS X st (TS1 X io cf W fr s)) (h2 : PSs X sts (TSs1 X io cf W fr ss)) : PSs X (st :: sts) (TSs1 X io cf W fr (.cons s ss)) := by
  refine (pss_cons h1 h2).imp fun D σ H h => ?_
  obtain ⟨Ex, env, fl, env', R, ev, k⟩ := h
  simp only [exSs] at ev
  split at ev
  · cases ev
  · rename_i e1 h1
    exact ⟨Ex, env, .nx, e1, R, h1, fun σ' H' q => ⟨Ex, e1, fl, env', q.rel, ev, k.pre q⟩⟩
  · rename_i d e1 h1
    cases ev
    exact ⟨Ex, env, .rt d, _, R, h1, k⟩
  · rename_i e1 h1
    cases ev
    exact ⟨Ex, env, .bk, _, R, h1, k⟩
  · rename_i e1 h1
    cases ev
    exact ⟨Ex, env, .ct, _, R, h1, k⟩
theorem p_pass : PS X (.Pass pos) (TS1 X io cf W fr .pass) := by
  refine ps_pass.imp fun D σ H h => ?_
  obtain ⟨Ex, env, fl, env', R, ev, k⟩ := h
  simp only [exS] at ev
  cases ev
  exact k σ H (Pst.refl R)
theorem p_brk : PS X (.Break pos) (TS1 X io cf W fr .brk) := by
  refine ps_break.imp fun D σ H h => ?_
  obtain ⟨Ex, env, fl, env', R, ev, k⟩ := h
  simp only [exS] at ev
  cases ev
  exact k σ H (Pst.refl R)
theorem p_cont : PS X (.Continue pos) (TS1 X io cf W fr .cont) := by
  refine ps_continue.imp fun D σ H h => ?_
  obtain ⟨Ex, env, fl, env', R, ev, k⟩ := h
  simp only [exS] at ev
  cases ev
  exact k σ H (Pst.refl R)
theorem p_retN : PS X (.Return none pos) (TS1 X io cf W false .retN) := by
  refine ps_retN.imp fun D σ H h => ?_
  obtain ⟨Ex, env, fl, env', R, ev, k⟩ := h
  simp only [exS] at ev
  cases ev
  simp only [Then, Bool.false_eq_true, if_false] at k
  exact k σ H .non (Pst.refl R) rp_non
theorem p_ret (he : PE X e (TE1 X io cf c)) : PS X (.Return (some e) pos) (TS1 X io cf W false (.ret c)) := by
  refine (ps_ret he).imp fun D σ H h => ?_
  obtain ⟨Ex, env, fl, env', R, ev, k⟩ := h
  simp only [exS] at ev
  split at ev
  · cases ev
  rename_i d e1 h1
  cases ev
  simp only [Then, Bool.false_eq_true, if_false] at k
  exact ⟨Ex, env, d, _, R, h1, fun v H' q r => k σ H' v q r⟩
theorem p_retO (he : PE X e (TF1 X io cf c)) : PS X (.Return (some e) pos) (TS1 X io cf W true (.retO c)) := by
  refine (ps_ret he).imp fun D σ H h => ?_
  obtain ⟨Ex, env, fl, env', R, ev, k⟩ := h
  simp only [exS] at ev
  split at ev
  · cases ev
  rename_i d e1 h1
  split at ev
  · cases ev
    simp only [Then, if_true] at k
    exact ⟨Ex, env, d, _, R, h1, fun p H' q r n c => k σ H' p q r n c⟩
  · cases ev
theorem p_never : PS X st (TS1 X io cf W fr .never) := by
  refine (ps_never (X := X) (st := st)).imp fun D σ H h => ?_
  obtain ⟨Ex, env, fl, env', R, ev, k⟩ := h
  simp only [exS] at ev
  cases ev
theorem p_ex (hc : isComp e = false) (he : PE X e (TE1 X io cf c)) : PS X (.Expr e pos) (TS1 X io cf W fr (.ex c)) := by
  refine (ps_expr he (swaps_ok hc)).imp fun D σ H h => ?_
  obtain ⟨Ex, env, fl, env', R, ev, k⟩ := h
  simp only [exS] at ev
  split at ev
  · cases ev
  rename_i d e1 h1
  cases ev
  exact ⟨Ex, env, d, _, R, h1, fun v H' q r => k σ H' q⟩
theorem p_ife {sa sb : List Stmt} {ssa ssb : CSs} (hc : PT X a (TBT X io cf c)) (ha : PSs X sa (TSs1 X io cf W fr ssa)) (hb : PSs X sb (TSs1 X io cf W fr ssb)) : PS X (.If a sa sb pos) (TS1 X io cf W fr (.ife c ssa ssb)) := by
  refine (ps_if hc ha hb).imp fun D σ H h => ?_
  obtain ⟨Ex, env, fl, env', R, ev, k⟩ := h
  simp only [exS] at ev
  split at ev
  · cases ev
  · rename_i e1 h1
    exact ⟨Ex, env, true, e1, R, h1, fun H1 p1 => ifT ⟨Ex, e1, fl, env', p1.rel, ev, k.pre p1⟩⟩
  · rename_i e1 h1
    exact ⟨Ex, env, false, e1, R, h1, fun H1 p1 => ifF ⟨Ex, e1, fl, env', p1.rel, ev, k.pre p1⟩⟩
theorem p_whl {body : List Stmt} (hp : PassesOwn (model X.prog X.w) X.A X.env X.xe) (hc : PT X a (TBT X io cf c)) (hb : PSs X body (TSs1 X io cf W fr ss)) : PS X (.While a body [] pos) (TS1 X io cf W fr (.whl c ss)) := by
  refine (ps_while hp hc hb).imp fun D σ H h => ?_
  obtain ⟨Ex, env, fl, env', R, ev, k⟩ := h
  simp only [exS] at ev
  refine ⟨fun m σ1 H1 => ∃ eI, Pst X.K io Ex H σ env H1 σ1 eI ∧ whGo (fun v => tst c v (evE cf c v)) (exSs cf W ss) m eI = some (fl, env'), ⟨W, env, Pst.refl R, ev⟩, ?_⟩
  rintro m σ1 H1 ⟨eI, P, hw⟩
  cases m with
  | zero => simp only [whGo] at hw; cases hw
  | succ m =>
    simp only [whGo] at hw
    split at hw
    · cases hw
    · rename_i e1 h1
      cases hw
      exact ⟨Ex, eI, false, _, P.rel, h1, fun H2 p2 => ifF (k σ1 H2 (P.trans p2))⟩
    · rename_i e1 h1
      refine ⟨Ex, eI, true, e1, P.rel, h1, fun H2 p2 => ifT ⟨fun σ' H' => ∃ eI, Pst X.K io Ex H σ env H' σ' eI ∧ whGo (fun v => tst c v (evE cf c v)) (exSs cf W ss) m eI = some (fl, env'), fun σ' H' w => ⟨m, Nat.lt_succ_self m, w⟩, ?_⟩⟩
      have P2 := P.trans p2
      split at hw
      · cases hw
      · rename_i e2 h2
        exact ⟨Ex, e1, .nx, e2, p2.rel, h2, fun σ' H' q => ⟨e2, P2.trans q, hw⟩⟩
      · rename_i e2 h2
        exact ⟨Ex, e1, .ct, e2, p2.rel, h2, fun σ' H' q => ⟨e2, P2.trans q, hw⟩⟩
      · rename_i e2 h2
        cases hw
        exact ⟨Ex, e1, .bk, _, p2.rel, h2, fun σ' H' q => k σ' H' (P2.trans q)⟩
      · rename_i d e2 h2
        cases hw
        exact ⟨Ex, e1, .rt d, _, p2.rel, h2, k.pre P2⟩
/-- behind a walk, nothing more barred -/
theorem Fin.plain {K : PySem.W.Frag} {it : CI} {Ex Ex1 : Addr → Prop} {H H1 H2 : Hp} {σ σ2 : St} {env env1 env2 env3 : Env} (fin : Fin K io it Ex H σ env Ex1 H1 env1) (p : Pst K io Ex1 H1 σ env1 H2 σ2 env2) (u : unlend it env env2 = some env3) :
    Pst K io Ex H σ env H2 σ2 env3 ∧ ∀ a, Zs σ2 env3 Ex a → Zs σ2 env2 Ex1 a := by
  have e0 : ∀ E : Addr → Prop, (fun a => E a ∨ (fun _ : Addr => False) a) = E := fun E => by funext a; simp
  have := fin (fun _ => False) H2 σ2 env2 env3 (fun _ _ z => z) (by rw [e0]; exact p.rel) p.ft p.lent (by rw [e0]; exact p.zs) u
  simp only [e0] at this
  exact ⟨⟨this.1, this.2.1, this.2.2.1⟩, this.2.2.2⟩
theorem forGo_inv {t : Tg} {bd : Env → RS} {d : D} {ds : List D} {env : Env} {r : Cv.Flow × Env} (h : forGo t bd (d :: ds) env = some r) : ∃ e1 f e2, asgT t d env = some e1 ∧ bd e1 = some (f, e2) ∧
    (((f = .nx ∨ f = .ct) ∧ forGo t bd ds e2 = some r) ∨ (f = .bk ∧ r = (.nx, e2)) ∨ ∃ d, f = .rt d ∧ r = (.rt d, e2)) := by
  simp only [forGo] at h
  split at h
  · cases h
  rename_i e1 h1
  split at h
  · cases h
  · rename_i e2 h2
    exact ⟨e1, .nx, e2, h1, h2, .inl ⟨.inl rfl, h⟩⟩
  · rename_i e2 h2
    exact ⟨e1, .ct, e2, h1, h2, .inl ⟨.inr rfl, h⟩⟩
  · rename_i e2 h2
    cases h
    exact ⟨e1, .bk, e2, h1, h2, .inr (.inl ⟨rfl, rfl⟩)⟩
  · rename_i d e2 h2
    cases h
    exact ⟨e1, .rt d, e2, h1, h2, .inr (.inr ⟨d, rfl, rfl⟩)⟩
theorem p_for {tgE iter : Expr} {tg : Tg} {ci : CI} {body : List Stmt} (hp : PassesOwn (model X.prog X.w) X.A X.env X.xe) (hcalm : X.calm = true) (hs : noSet iter = true) (hi : PI X tgE iter (TI1 X io cf ci)) (hg : PG X tgE (TGo X.K io tg))
    (hb : PSs X body (TSs1 X io cf W fr ss)) : PS X (.For tgE iter body [] pos) (TS1 X io cf W fr (.for_ tg ci ss)) := by
  refine (ps_for hp hcalm hi hg hb (folded_ok hs)).imp fun D σ H h => ?_
  obtain ⟨Ex, env, fl, env', R, ev, k⟩ := h
  simp only [exS] at ev
  split at ev
  · cases ev
  rename_i ds e1 h1
  cases hgo : forGo tg (exSs cf W ss) ds e1 with
  | none => rw [hgo] at ev; simp [unlendF] at ev
  | some r =>
    obtain ⟨f, e2⟩ := r
    rw [hgo] at ev
    simp only [unlendF] at ev
    split at ev
    · rename_i e3 h3
      cases ev
      refine ⟨Ex, env, ds, e1, R, h1, fun J H1 ip => ?_⟩
      obtain ⟨Ex1, R1, ⟨G, Y, wk, stab⟩, hle, hnone, fin⟩ := ip
      have endNx : ∀ σ' H', fl = .nx → Pst X.K io Ex1 H1 σ e1 H' σ' e2 → D.nx σ' H' := fun σ' H' hf P => by
        subst hf
        exact k σ' H' (fin.plain P h3).1
      refine for_it wk (fun i σ2 H2 => ∃ eI, Pst X.K io Ex1 H1 σ e1 H2 σ2 eI ∧ forGo tg (exSs cf W ss) (ds.drop i) eI = some (fl, e2)) ⟨e1, Pst.refl R1, hgo⟩ ?_ ?_ ?_
      · rintro i σ2 H2 hi ⟨eI, P, _⟩
        exact (stab H2 _ P.zs (fun a o x e => P.bars R1 x e) fun a z => P.rel.there z).1
      · rintro i x σ2 H2 H3 hi ⟨eI, P, hw⟩ hY
        obtain ⟨dd, hd1, hd2⟩ := drop_at hi
        obtain ⟨sm, rp⟩ := (stab H2 _ P.zs (fun a o x e => P.bars R1 x e) fun a z => P.rel.there z).2 i x H3 hi hY
        rw [hd2] at hw
        obtain ⟨u1, f1, u2, g1, g2, g3⟩ := forGo_inv hw
        have p3 := P.rel.pst_same sm
        refine ⟨Ex1, eI, dd, u1, p3.rel, rp dd hd1, g1, fun σ3 pG _ _ => ?_⟩
        have P4 := (P.trans p3).trans pG
        refine ⟨Ex1, u1, f1, u2, pG.rel, g2, ?_⟩
        rcases g3 with ⟨hf, g4⟩ | ⟨rfl, g4⟩ | ⟨d, rfl, g4⟩
        · rcases hf with rfl | rfl
          · exact fun σ' H' q => ⟨u2, P4.trans q, g4⟩
          · exact fun σ' H' q => ⟨u2, P4.trans q, g4⟩
        · cases g4
          exact fun σ' H' q => endNx σ' H' rfl (P4.trans q)
        · cases g4
          cases fr with
          | false =>
            simp only [Then, Bool.false_eq_true, if_false] at k ⊢
            intro σ' H' v q r
            obtain ⟨P5, z5⟩ := fin.plain (P4.trans q) h3
            exact k σ' H' v P5 (Rp.ft (Ft.less z5) _ _ r)
          | true =>
            simp only [Then, if_true] at k ⊢
            intro σ' H' q0 q r n c
            have Q5 := P4.trans q
            obtain ⟨P5, z5⟩ := fin.plain Q5 h3
            have n1 : H1 q0 = none ∨ Ow σ e1 q0 := P4.new n
            have nx1 : ¬ Ex1 q0 := fun z => n1.elim (R1.ext q0 z) fun ⟨i, o⟩ => (R1.ow o).1 z
            have hB : ∀ a, Ex1 a → ¬ a = q0 := fun a x e => nx1 (e ▸ x)
            have fz : Ft H1 (Zs σ e1 Ex1) H' (Zs σ' e2 fun a => Ex1 a ∨ a = q0) := fun b u e nz => by
              obtain ⟨z1, z2⟩ := Q5.zs b u e nz
              refine ⟨z1, fun z => z.elim (fun z => z2 (.inl z)) fun z => z.elim (fun z => z2 (.inr z)) fun z => ?_⟩
              subst z
              rcases n1 with n1 | n1
              · rw [n1] at e; cases e
              · exact nz (.inl n1)
            obtain ⟨R6, f6, l6, z6⟩ := fin (fun a => a = q0) H' σ' e2 _ hB r Q5.ft Q5.lent fz h3
            have n0 : H q0 = none ∨ Ow σ env q0 := hnone q0 n1
            exact k σ' H' q0 P5 R6 n0 (c.ft (Ft.less z6) fun _ e => e)
      · rintro σ2 H2 ⟨eI, P, hw⟩
        rw [List.drop_length] at hw
        simp only [forGo] at hw
        cases hw
        exact endNx σ2 H2 rfl P
    · cases ev
end
end Cv
end

section
/-! CvZ: assignments; all statements. -/
set_option autoImplicit false
set_option linter.all false
set_option maxRecDepth 100000
set_option maxHeartbeats 4000000
namespace Cv
open PySem PySem.Spec L2
section
variable {G : GI} {lev : Nat} {S : SC} {X : Cx} {io : Nat → Option Addr} {cf : CallF} {W : Nat} {fr : Bool} {a b e k : Expr} {ca c cc ck : CE} {cs : CEs} {pos p : Pos} {x : Str} {i n : Nat} {st : Stmt}
theorem sole_eq {t v : Expr} {l : Nat} {env : PySem.Env} : swapsWithSole [t] v l env = swapsWith v (some t) l env := rfl
theorem p_asgN {t : TE} (h : PS X (.Assign [.Name x p] e pos) (tAsg t (gName i))) (ht : ∀ σ H Q, TE1 X io cf c σ H Q → t σ H Q) : PS X (.Assign [.Name x p] e pos) (TS1 X io cf W fr (.asg (.name i) c)) := by
  refine h.imp fun D σ H h => ?_
  obtain ⟨Ex, env, fl, env', R, ev, k⟩ := h
  simp only [exS] at ev
  split at ev
  · cases ev
  rename_i d e1 h1
  split at ev
  · cases ev
  rename_i e2 h2
  cases ev
  simp only [asgT] at h2
  exact ht _ _ _ ⟨Ex, env, d, e1, R, h1, fun v H' q r => k _ H' (q.trans (q.rel.store h2 r))⟩
theorem p_asgO (h : PS X (.Assign [.Name x p] e pos) (tAsg (TF1 X io cf c) (gName i))) : PS X (.Assign [.Name x p] e pos) (TS1 X io cf W fr (.asgO i c)) := by
  refine h.imp fun D σ H h => ?_
  obtain ⟨Ex, env, fl, env', R, ev, k⟩ := h
  simp only [exS] at ev
  split at ev
  · cases ev
  rename_i d e1 h1
  split at ev
  · split at ev
    · cases ev
    rename_i e2 h2
    cases ev
    exact ⟨Ex, env, d, e1, R, h1, fun p H' ps R' nw cc => k _ H' (Rel.storeOwn R ps R' nw cc h2)⟩
  · cases ev
theorem p_asgT {tes : List Expr} {ts : List Tg} {k0 : Nat} {tp : Pos} (hc : isComp e = false) (hne : ∀ es k p, e ≠ .Tuple es k p) (he : PE X e (TE1 X io cf c)) (hg : PG X (.Tuple tes k0 tp) (TGo X.K io (.tup ts))) : PS X (.Assign [.Tuple tes k0 tp] e pos) (TS1 X io cf W fr (.asg (.tup ts) c)) := by
  refine (ps_asg he hg (sole_eq.trans (swaps_ok hc)) (by cases e <;> first | rfl | exact absurd rfl (hne _ _ _))).imp fun D σ H h => ?_
  obtain ⟨Ex, env, fl, env', R, ev, k⟩ := h
  simp only [exS] at ev
  split at ev
  · cases ev
  rename_i d e1 h1
  split at ev
  · cases ev
  rename_i e2 h2
  cases ev
  exact ⟨Ex, env, d, e1, R, h1, fun v H' q r => ⟨Ex, e1, d, _, q.rel, r, h2, fun σ' q2 _ _ => k σ' H' (q.trans q2)⟩⟩
theorem chg_inv {f : D → Option D} {env env' : Env} (h : chg i f env = some env') : ∃ d d' s s', env[i]? = some s ∧ PutS d d' s s' ∧ f d = some d' ∧ env' = env.set i s' := by
  unfold chg at h
  split at h
  · rename_i d q
    split at h
    · rename_i d' h2
      cases h
      exact ⟨d, d', _, _, q, .inl ⟨rfl, rfl⟩, h2, rfl⟩
    · cases h
  · rename_i d q
    split at h
    · rename_i d' h2
      cases h
      exact ⟨d, d', _, _, q, .inr ⟨rfl, rfl⟩, h2, rfl⟩
    · cases h
  · cases h
theorem ixN_eq {m : Nat} {z : Int} : ixN m z = L2.ixN m z := by
  unfold ixN L2.ixN
  rfl
theorem p_setix (hu : X.A.units + 65 < cLine) (hs : noSlice k = true) (hc : isComp e = false) (hv : PE X (.Name x p) (tVar i)) (hk : PE X k (TE1 X io cf ck)) (he : PE X e (TE1 X io cf c)) {sp : Pos} :
    PS X (.Assign [.Subscript (.Name x p) k sp] e pos) (TS1 X io cf W fr (.setix i ck c)) := by
  refine PS.by' fun D σ H h => ?_
  obtain ⟨Ex, env, fl, env', R, ev, kk⟩ := h
  simp only [exS] at ev
  split at ev
  · cases ev
  rename_i v e1 h1
  split at ev
  · rename_i ho
    split at ev
    · cases ev
    rename_i y e2 h2
    split at ev
    · cases ev
    rename_i e3 h3
    cases ev
    obtain ⟨d, d', s, s', q1, q2, q3, rfl⟩ := chg_inv h3
    have hsw : swapsWithSole [.Subscript (.Name x p) k sp] e pos.line X.env = pure false := sole_eq.trans (swaps_ok hc)
    have ha : ∀ v, assign (.Subscript (.Name x p) k sp) X.env v = (do
        let ov ← holding [v] (eval (.Name x p) X.env)
        let iv ← holding [v, ov] (eval k X.env)
        standAt sp
        holding [v, ov, iv] (setItem ov iv v)
        release [v, ov, iv] []) := by
      intro v
      cases k <;> first | rfl | (simp [noSlice] at hs)
    have adr : ∀ H1, Rel X.K io Ex H1 σ e1 → ∃ l, σ[i]? = some (some (.ref l)) := fun H1 R1 => by
      unfold isObjS at ho
      split at ho
      · rename_i d1 q
        obtain ⟨l, e, _⟩ := R1.slot i _ q
        exact ⟨l, e⟩
      · rename_i d1 q
        obtain ⟨l, _, e, _⟩ := R1.slot i _ q
        exact ⟨l, e⟩
      · cases ho
    have cont : ∀ H2 l, Rel X.K io Ex H2 σ e2 → σ[i]? = some (some (.ref l)) → Ct X.K H2 (Zs σ e2 Ex) l d := fun H2 l R2 e => by
      have sl := R2.slot i _ q1
      rcases q2 with ⟨rfl, _⟩ | ⟨rfl, _⟩
      · obtain ⟨b, e', _, c'⟩ := sl
        rw [e] at e'
        cases e'
        exact c'
      · obtain ⟨b, _, e', _, c'⟩ := sl
        rw [e] at e'
        cases e'
        exact c'
    have zi : ∀ l, σ[i]? = some (some (.ref l)) → Zs σ e2 Ex l := fun l e => .inl ⟨i, ⟨d, by rcases q2 with ⟨rfl, _⟩ | ⟨rfl, _⟩ <;> first | exact .inl q1 | exact .inr q1⟩, e⟩
    have fw : ∀ H2 l o, σ[i]? = some (some (.ref l)) → Ft H2 (Zs σ e2 Ex) (upd H2 l o) (Zs σ e2 Ex) := fun H2 l o e b u hb nz => ⟨by rw [upd_ne fun z => nz (by rw [z]; exact zi l e)]; exact hb, nz⟩
    cases d with
    | lst xs =>
      simp only [setD] at q3
      split at q3
      · rename_i z
        split at q3
        · rename_i j hj
          cases q3
          refine ⟨_, ps_asg he (pg_sub hv hk set_list ha) hsw rfl, Ex, env, v, e1, R, h1, fun u H1 p1 r1 => ?_⟩
          obtain ⟨l, el⟩ := adr H1 p1.rel
          refine ⟨_, el, Ex, e1, _, e2, p1.rel, h2, fun w H2 p2 r2 => ?_⟩
          simp only [Rp] at r2
          obtain ⟨vs, hvs, rv⟩ := cont H2 l p2.rel el
          have ru := Rp.ft p2.zs _ _ r1
          have ps := p2.rel.poke q1 q2 el (H' := upd H2 l (.lst (vs.set j u))) (fun b w hb nb => by rw [upd_ne nb]; exact hb) ⟨_, upd_same, RpL.set (Rp.ft (fw H2 l _ el) _ _ ru) j (RpL.ft (fw H2 l _ el) _ _ rv)⟩
          exact ⟨l, vs, z, j, rfl, r2, hvs, by rw [rv.length, ← ixN_eq]; exact hj, kk σ _ ((p1.trans p2).trans ps)⟩
        · cases q3
      · cases q3
    | dic ks ws =>
      simp only [setD] at q3
      split at q3
      · rename_i hk2
        cases q3
        rw [Bool.and_eq_true] at hk2
        refine ⟨_, ps_asg he (pg_sub hv hk (set_dict (by omega)) ha) hsw rfl, Ex, env, v, e1, R, h1, fun u H1 p1 r1 => ?_⟩
        obtain ⟨l, el⟩ := adr H1 p1.rel
        refine ⟨_, el, Ex, e1, _, e2, p1.rel, h2, fun w H2 p2 r2 => ?_⟩
        obtain ⟨kvs, hvs, rfl, rv⟩ := cont H2 l p2.rel el
        obtain ⟨key, hkey⟩ := keyOk_of hk2.1
        have := keyOf_ok hkey
        subst this
        have ru := Rp.ft p2.zs _ _ r1
        have hp := putD_ok key (Rp.ft (fw H2 l (.dK (putK kvs key u)) el) _ _ ru) kvs ws (RpL.ft (fw H2 l _ el) _ _ rv)
        have ps := p2.rel.poke q1 q2 el (H' := upd H2 l (.dK (putK kvs key u))) (fun b w hb nb => by rw [upd_ne nb]; exact hb) ⟨_, upd_same, hp.1, hp.2⟩
        refine ⟨l, _, rfl, .inl ⟨kvs, key, hvs, Rb.key (.inl r2), ?_, rfl⟩, kk σ _ ((p1.trans p2).trans ps)⟩
        have := hk2.2
        rw [List.length_map] at this
        rw [← big_eq]
        simpa using this
      · cases q3
    | _ => simp [setD] at q3
  · cases ev
theorem p_aug {op : Operator} {o : Bop} (ho : bopOf op = some o) (h2 : o = .add ∨ o = .sub) (hN : X.N.Nodup) (hi : X.N[i]? = some x) (hx : Loc X.env.scope x) (hf : X.fn x = true ∨ X.env.scope.names.lookup x = some .local) (he : PE X e (TE1 X io cf c)) :
    PS X (.AugAssign (.Name x p) op e pos) (TS1 X io cf W fr (.aug i o c)) := by
  have eo : op = oprOf o := by cases op <;> simp [bopOf] at ho <;> subst ho <;> rfl
  subst eo
  have body : ∀ (f : Int → Int → Int), PIp X (oprOf o) (ipI f) → (∀ q1 q2 d, augD o q1 q2 = some d → ∃ i j, q1 = .int i ∧ q2 = .int j ∧ d = .int (f i j)) → PS X (.AugAssign (.Name x p) (oprOf o) e pos) (TS1 X io cf W fr (.aug i o c)) := by
    intro f hp hf2
    refine (ps_aug hN hi hx he hp hf).imp fun D σ H h => ?_
    obtain ⟨Ex, env, fl, env', R, ev, k⟩ := h
    simp only [exS] at ev
    split at ev
    · rename_i old q
      split at ev
      · cases ev
      rename_i v e1 h1
      split at ev
      · cases ev
      rename_i d h3
      split at ev
      · cases ev
      rename_i e2 h4
      cases ev
      obtain ⟨z1, z2, rfl, rfl, rfl⟩ := hf2 _ _ _ h3
      obtain ⟨u, eu, ru⟩ := R.slot i _ q
      simp only [Rp] at ru
      subst ru
      refine ⟨_, eu, Ex, env, _, e1, R, h1, fun v H1 p1 r1 => ?_⟩
      simp only [Rp] at r1
      subst r1
      exact ⟨z1, z2, rfl, rfl, k _ H1 (p1.trans (p1.rel.store h4 rp_int))⟩
    · cases ev
  rcases h2 with rfl | rfl
  · exact body _ ip_add fun q1 q2 d h => by cases q1 <;> cases q2 <;> simp [augD] at h; exact ⟨_, _, rfl, rfl, h.symm⟩
  · exact body _ ip_sub fun q1 q2 d h => by cases q1 <;> cases q2 <;> simp [augD] at h; exact ⟨_, _, rfl, rfl, h.symm⟩

/-! ### a name set to a comprehension -/
theorem c_set (ok : XOk G S X cf lev) {elt : Expr} {gs : List Comprehension} {scope : Scope} {cp : Pos} (hx : slotSt S x = some i) (h : cE G n S (.ListComp elt gs scope cp) = some c) :
    PS X (.Assign [.Name x p] (.ListComp elt gs scope cp) pos) (tAsg (TF1 X io cf c) (gName i)) := by
  have hN : X.N[i]? = some x ∧ Loc X.env.scope x ∧ (X.fn x = true ∨ X.env.scope.names.lookup x = some .local) := by
    unfold slotSt at hx
    split at hx
    · rename_i e
      simp only [Bool.and_eq_true] at e
      exact ⟨by rw [ok.N]; exact ixOf_ok hx, ok.sto x e.1.1⟩
    · cases hx
  obtain ⟨hi, hl, hf⟩ := hN
  have hsw : ∃ bb : Bool, swapsWith (.ListComp elt gs scope cp) (some (.Name x p)) pos.line X.env = pure bb ∧ (bb = true → X.env.scope.names.lookup x = some .local) := by
    refine ⟨_, rfl, fun hb => ?_⟩
    simp only [Bool.and_eq_true] at hb
    have := hb.1.1.2
    have e : X.env.kindOf x = some .local := by simpa using this
    exact e
  obtain ⟨bb, hsw, hyl⟩ := hsw
  cases n with
  | zero => simp [cE] at h
  | succ n =>
    obtain ⟨hE, hL, hO, hF, hP, hI⟩ := all_ok G cf lev n
    cases bb with
    | false =>
      have h' := h
      simp only [cE] at h'
      have hfr := e_lc (io := io) (pos := cp) hE hF hI ok h'
      refine ps_set ok.nd hi hl (hfr.new ?_) hsw hf
      simp only [cE] at h
      split at h
      · split at h
        · split at h
          · split at h
            · cases h; rfl
            · cases h
          · cases h
        · cases h
      · split at h
        · split at h
          · split at h
            · cases h; rfl
            · cases h
          · cases h
        · cases h
      · cases h
    | true =>
      have hy := hyl rfl
      simp only [cE] at h
      split at h
      · rename_i tg it ifs
        split at h
        · rename_i hb
          split at h
          · rename_i ci ct ce cf' h1 h2 h3 h4
            split at h
            · rename_i hsl
              cases h
              rw [List.all_eq_true] at hsl
              obtain ⟨i1, i2, _⟩ := hI S X io ok it ci h1
              have kb := fun s H C cl fp => ok.blk hb s H C cl fp
              exact (ps_setLc ok.calm ok.nd hi hy hsw (i2 tg) (by have := blkB_ok hb; rw [← ok.N, ← ok.sc] at this; rw [← ok.N]; exact this)
                (fun s H C cl fp => ((cT_ok n).1 _ _ io (kb s H C cl fp) tg ct h2).1) (fun s H C cl fp => hF _ _ io (kb s H C cl fp) ifs cf' h4) (fun s H C cl fp => (hE _ _ io (kb s H C cl fp) elt ce h3).pe) (folded_ok i1)).imp fun D σ H q =>
                  lc_tr (fun j hj => by simpa using hsl j hj) σ H _ q
            · cases h
          · cases h
        · cases h
      · rename_i tg it ifs tg2 it2 ifs2
        split at h
        · rename_i hb
          split at h
          · rename_i ci ct ce cf' ci2 ct2 cf2 h1 h2 h3 h4 h5 h6 h7
            split at h
            · rename_i hsl
              cases h
              rw [Bool.and_eq_true, List.all_eq_true, List.all_eq_true] at hsl
              obtain ⟨i1, i2, _⟩ := hI S X io ok it ci h1
              have kb := fun s H C cl fp => ok.blk hb s H C cl fp
              have j1 : noSet it2 = true := (hI _ _ io (kb X.s_0 (fun _ => none) 0 [] []) it2 ci2 h5).1
              have hs2 : ∀ j ∈ slotsT ct2, j ∈ (ownOf S.N scope.names).map (·.2) := fun j hj => by simpa using hsl.2 j hj
              exact (ps_setLc2 ok.calm ok.nd hi hy hsw (i2 tg) (by have := blkB_ok hb; rw [← ok.N, ← ok.sc] at this; rw [← ok.N]; exact this) hs2
                (fun s H C cl fp => ((cT_ok n).1 _ _ io (kb s H C cl fp) tg ct h2).1) (fun s H C cl fp => hF _ _ io (kb s H C cl fp) ifs cf' h4) (fun s H C cl fp => (hI _ _ io (kb s H C cl fp) it2 ci2 h5).2.2 tg2)
                (fun s H C cl fp => ((cT_ok n).1 _ _ io (kb s H C cl fp) tg2 ct2 h6).1) (fun s H C cl fp => hF _ _ io (kb s H C cl fp) ifs2 cf2 h7) (fun s H C cl fp => (hE _ _ io (kb s H C cl fp) elt ce h3).pe) (folded_ok i1) (fun _ => folded_ok j1)).imp fun D σ H q =>
                  lc2_tr (fun j hj => by simpa using hsl.1 j hj) hs2 σ H _ q
            · cases h
          · cases h
        · cases h
      · cases h
end
end Cv
end

section
/-! CvZa: pairs of stores; all statements. -/
set_option autoImplicit false
set_option linter.all false
set_option maxRecDepth 100000
set_option maxHeartbeats 4000000
namespace Cv
open PySem PySem.Spec L2
theorem star_no : ∀ e : Expr, noStar e = true → (match e with | .Starred .. => true | _ => false) = false := by
  intro e h
  cases e <;> first | rfl | (simp [noStar] at h)
theorem dd2 {x y : Str} (h : x ≠ y) : ([x, y] : List Str).eraseDups = [x, y] := by
  have : (y == x) = false := by simpa using fun e => h e.symm
  simp [List.eraseDups, List.eraseDupsBy, List.eraseDupsBy.loop, this]
theorem dd3 {x y z : Str} (h : x ≠ y) (h2 : x ≠ z) (h3 : y ≠ z) : ([x, y, z] : List Str).eraseDups = [x, y, z] := by
  have e1 : (y == x) = false := by simpa using fun e => h e.symm
  have e2 : (z == x) = false := by simpa using fun e => h2 e.symm
  have e3 : (z == y) = false := by simpa using fun e => h3 e.symm
  simp [List.eraseDups, List.eraseDupsBy, List.eraseDupsBy.loop, e1, e2, e3]
theorem par2 {env : PySem.Env} {x y : Str} {a b : Expr} {px py p1 p2 : Pos} {k1 k2 : Nat} (kd : env.blockKind = .function) (hx : env.kindOf x = some .local) (hy : env.kindOf y = some .local) (hl : (py.line == px.line) = true) (hxy : x ≠ y) (s1 : noStar a = true) (s2 : noStar b = true)
    (hf : (!foldedForSure 8 a || !foldedForSure 8 b) = true) (hc : (!constantsAlone 8 a || !constantsAlone 8 b) = true) : swappedStores [.Tuple [.Name x px, .Name y py] k1 p1] (.Tuple [a, b] k2 p2) env = pure (some [x, y]) := by
  have hf' : [a, b].all (foldedForSure 8) = false := by
    cases h1 : foldedForSure 8 a <;> cases h2 : foldedForSure 8 b <;> simp_all
  have hc' : [a, b].all (constantsAlone 8) = false := by
    cases h1 : constantsAlone 8 a <;> cases h2 : constantsAlone 8 b <;> simp_all
  have hl' : py.line = px.line := by simpa using hl
  unfold swappedStores
  simp [kd, hx, hy, hl', hf', hc', dd2 hxy, Expr.pos]
  intro h
  rcases h with h | h
  · exact absurd ((star_no a s1).symm.trans h) (by decide)
  · exact absurd ((star_no b s2).symm.trans h) (by decide)
theorem par3 {env : PySem.Env} {x y z : Str} {a b c : Expr} {px py pz p1 p2 : Pos} {k1 k2 : Nat} (kd : env.blockKind = .function) (hx : env.kindOf x = some .local) (hy : env.kindOf y = some .local) (hz : env.kindOf z = some .local) (hl : (py.line == px.line) = true) (hl2 : (pz.line == px.line) = true)
    (hxy : x ≠ y) (hxz : x ≠ z) (hyz : y ≠ z) (s1 : noStar a = true) (s2 : noStar b = true) (s3 : noStar c = true)
    (hf : (!foldedForSure 8 a || !foldedForSure 8 b || !foldedForSure 8 c) = true) (hc : (!constantsAlone 8 a || !constantsAlone 8 b || !constantsAlone 8 c) = true) : swappedStores [.Tuple [.Name x px, .Name y py, .Name z pz] k1 p1] (.Tuple [a, b, c] k2 p2) env = pure (some [x, y, z]) := by
  have hf' : [a, b, c].all (foldedForSure 8) = false := by
    cases h1 : foldedForSure 8 a <;> cases h2 : foldedForSure 8 b <;> cases h3 : foldedForSure 8 c <;> simp_all
  have hc' : [a, b, c].all (constantsAlone 8) = false := by
    cases h1 : constantsAlone 8 a <;> cases h2 : constantsAlone 8 b <;> cases h3 : constantsAlone 8 c <;> simp_all
  have hl' : py.line = px.line := by simpa using hl
  have hl3 : pz.line = px.line := by simpa using hl2
  unfold swappedStores
  simp [kd, hx, hy, hz, hl', hl3, hf', hc', dd3 hxy hxz hyz, Expr.pos]
  intro h
  rcases h with h | h | h
  · exact absurd ((star_no a s1).symm.trans h) (by decide)
  · exact absurd ((star_no b s2).symm.trans h) (by decide)
  · exact absurd ((star_no c s3).symm.trans h) (by decide)
theorem par2n {env : PySem.Env} {x y : Str} {a b : Expr} {px py p1 p2 : Pos} {k1 k2 : Nat} (hn : ¬ env.kindOf x = some .local ∨ ¬ env.kindOf y = some .local) : swappedStores [.Tuple [.Name x px, .Name y py] k1 p1] (.Tuple [a, b] k2 p2) env = pure none := by
  unfold swappedStores
  rcases hn with h | h
  · by_cases hy : env.kindOf y = some NameKind.local ∧ py.line = px.line <;> simp [h, hy, Expr.pos] <;> intro _ _ _ hl <;> simp [List.filterMap_cons, h, hy] at hl
  · by_cases hx : env.kindOf x = some NameKind.local <;> simp [h, hx, Expr.pos] <;> intro _ _ _ hl <;> simp [List.filterMap_cons, h, hx] at hl
theorem par3n {env : PySem.Env} {x y z : Str} {a b c : Expr} {px py pz p1 p2 : Pos} {k1 k2 : Nat} (hn : ¬ env.kindOf x = some .local ∨ ¬ env.kindOf y = some .local ∨ ¬ env.kindOf z = some .local) : swappedStores [.Tuple [.Name x px, .Name y py, .Name z pz] k1 p1] (.Tuple [a, b, c] k2 p2) env = pure none := by
  unfold swappedStores
  rcases hn with h | h | h
  · by_cases hy : env.kindOf y = some NameKind.local ∧ py.line = px.line <;> by_cases hz : env.kindOf z = some NameKind.local ∧ pz.line = px.line <;> simp [h, hy, hz, Expr.pos] <;> intro _ _ _ _ hl <;> simp [List.filterMap_cons, h, hy, hz] at hl
  · by_cases hx : env.kindOf x = some NameKind.local <;> by_cases hz : env.kindOf z = some NameKind.local ∧ pz.line = px.line <;> simp [h, hx, hz, Expr.pos] <;> intro _ _ _ _ hl <;> simp [List.filterMap_cons, h, hx, hz] at hl
  · by_cases hx : env.kindOf x = some NameKind.local <;> by_cases hy : env.kindOf y = some NameKind.local ∧ py.line = px.line <;> simp [h, hx, hy, Expr.pos] <;> intro _ _ _ _ hl <;> simp [List.filterMap_cons, h, hx, hy] at hl
section
variable {G : GI} {lev : Nat} {S : SC} {X : Cx} {io : Nat → Option Addr} {cf : CallF} {W : Nat} {fr : Bool} {a b e k : Expr} {ca c cc ck : CE} {cs : CEs} {pos p : Pos} {x : Str} {i n : Nat} {st : Stmt}
theorem own_pa (ok : XOk G S X cf lev) : ∀ (n : Nat) (es ts : List Expr) (cs : List CE) (l : List (Nat × Bool)), cL G n S es = some cs → ownM S ts cs = some l → PA X es (TLm X.K io (l.map (·.2)) (evL cf (toCEs cs)))
  | 0, es, ts, cs, l, h, _ => by simp [cL] at h
  | n + 1, es, ts, cs, l, h, ho => by
    simp only [cL] at h
    split at h
    · cases h
      cases ts with
      | nil =>
        simp only [ownM] at ho
        cases ho
        exact m_nil
      | cons t ts => cases t <;> simp [ownM] at ho
    · rename_i e r
      split at h
      · rename_i hs
        split at h
        · cases h
        rename_i c q1
        cases q : cL G n S r with
        | none => rw [q] at h; cases h
        | some cs' =>
          rw [q] at h
          cases h
          have ke := (all_ok G cf lev n).1 S X io ok e c q1
          cases ts with
          | nil => simp [ownM] at ho
          | cons t ts =>
            cases t <;> simp only [ownM] at ho <;> first | cases ho | skip
            split at ho
            · rename_i i l' h1 h2
              cases ho
              have ih := own_pa ok n r ts cs' l' q h2
              rw [List.map_cons]
              cases hf : (S.own.contains _ && isFreshTop c) with
              | true =>
                rw [Bool.and_eq_true] at hf
                exact m_consO hs (ke.new hf.2) ih
              | false => exact m_cons hs ke.pe ih
            · cases ho
      · cases h
theorem own_slots (ok : XOk G S X cf lev) : ∀ {ts : List Expr} {cs : List CE} {l : List (Nat × Bool)}, ownM S ts cs = some l → ∀ (x : Str) (px : Pos) (r : List Expr), ts = .Name x px :: r → ∃ i o l' c cs', l = (i, o) :: l' ∧ cs = c :: cs' ∧ ownM S r cs' = some l' ∧ X.N[i]? = some x := by
  intro ts cs l h x px r e
  subst e
  cases cs with
  | nil => simp [ownM] at h
  | cons c cs =>
    simp only [ownM] at h
    split at h
    · rename_i i l' h1 h2
      cases h
      refine ⟨i, _, l', c, cs, rfl, rfl, h2, ?_⟩
      unfold slotSt at h1
      split at h1
      · rw [ok.N]; exact ixOf_ok h1
      · cases h1
    · cases h
theorem own_end {cs : List CE} {l : List (Nat × Bool)} (h : ownM S [] cs = some l) : l = [] ∧ cs = [] := by
  cases cs with
  | nil => simp only [ownM] at h; cases h; exact ⟨rfl, rfl⟩
  | cons _ _ => simp [ownM] at h
theorem ne_ix {N : List Str} {i j : Nat} {x y : Str} (h1 : N[i]? = some x) (h2 : N[j]? = some y) (h : x ≠ y) : i ≠ j := fun e => by
  subst e
  rw [h1] at h2
  exact h (Option.some.inj h2)
theorem locN_ok {sc : Scope} {x : Str} (h : locN sc x = true) : sc.names.lookup x = some .local := by
  unfold locN at h
  split at h
  · assumption
  · cases h
theorem MV.len2 {K : PySem.W.Frag} {H : Hp} {Z : Addr → Prop} {o1 o2 : Bool} {ds : List D} {vs : List V} {ps : List Addr} (h : MV K H Z [o1, o2] ds vs ps) : ∃ v w, vs = [v, w] := by
  obtain ⟨d, ds', v, vs', _, rfl, h⟩ := h
  have h2 : ∃ ps', MV K H Z [o2] ds' vs' ps' := by
    split at h
    · obtain ⟨_, ps', _, _, _, m⟩ := h; exact ⟨ps', m⟩
    · exact ⟨ps, h.2⟩
  obtain ⟨ps', h2⟩ := h2
  obtain ⟨d2, ds2, w, vs2, _, rfl, h3⟩ := h2
  have h4 : vs2 = [] := by
    split at h3
    · obtain ⟨_, _, _, _, _, m⟩ := h3; exact m.2.1
    · exact h3.2.2.1
  exact ⟨v, w, by rw [h4]⟩
theorem MV.len3 {K : PySem.W.Frag} {H : Hp} {Z : Addr → Prop} {o1 o2 o3 : Bool} {ds : List D} {vs : List V} {ps : List Addr} (h : MV K H Z [o1, o2, o3] ds vs ps) : ∃ u v w, vs = [u, v, w] := by
  obtain ⟨d, ds', v, vs', _, rfl, h⟩ := h
  have h2 : ∃ ps', MV K H Z [o2, o3] ds' vs' ps' := by
    split at h
    · obtain ⟨_, ps', _, _, _, m⟩ := h; exact ⟨ps', m⟩
    · exact ⟨ps, h.2⟩
  obtain ⟨ps', h2⟩ := h2
  obtain ⟨u, w, rfl⟩ := h2.len2
  exact ⟨v, u, w, rfl⟩
theorem asgM_go {D : Ends} {σ : St} {H : Hp} {l : List (Nat × Bool)} {ces : CEs} (h : TS1 X io cf W fr (.asgM l ces) D σ H) : TLm X.K io (l.map (·.2)) (evL cf ces) σ H fun vs H1 => (∃ ds ps Z, MV X.K H1 Z (l.map (·.2)) ds vs ps) ∧ ∀ H2, Same H1 H2 → D.nx (setAll σ (l.map (·.1)) vs) H2 := by
  obtain ⟨Ex, env, fl, env', R, ev, k⟩ := h
  simp only [exS] at ev
  split at ev
  · cases ev
  rename_i ds e1 h1
  split at ev
  · cases ev
  rename_i e2 h2
  cases ev
  exact ⟨Ex, env, ds, e1, R, h1, fun vs H' ps P R' nd n m => ⟨⟨ds, ps, _, m⟩, fun H2 sm => k _ H2 (storeM_ok R l (P.trans (P.rel.pst_same sm)) (R'.same sm) nd n (m.ft (Ft.same sm) fun p _ o e => sm p o e) h2)⟩⟩
theorem p_asgM (ok : XOk G S X cf lev) {tes es : List Expr} {k1 k2 : Nat} {p1 p2 : Pos} {cs : List CE} {l : List (Nat × Bool)} (hp : parB S.sc tes es = true) (hc : cL G n S es = some cs) (ho : ownM S tes cs = some l) :
    PS X (.Assign [.Tuple tes k1 p1] (.Tuple es k2 p2) pos) (TS1 X io cf W fr (.asgM l (toCEs cs))) := by
  have pa : PA X es (TLm X.K io (l.map (·.2)) (evL cf (toCEs cs))) := own_pa ok n es tes cs l hc ho
  have star : ∀ y ∈ es, noStar y = true := ((all_ok G cf lev n).2.1 S X io ok es cs hc).2
  have kd : X.env.blockKind = .function := by
    have := ok.kind
    unfold PySem.Env.blockKind
    rw [ok.sc, this]
    rfl
  have lk : ∀ y, X.env.kindOf y = S.sc.names.lookup y := fun y => by
    show X.env.scope.names.lookup y = _
    rw [ok.sc]
  unfold parB at hp
  split at hp
  · rename_i x px y py a b
    simp only [Bool.and_eq_true, decide_eq_true_eq] at hp
    obtain ⟨⟨⟨⟨⟨⟨_, hx⟩, hy⟩, hl⟩, hxy⟩, hf⟩, hcc⟩ := hp
    have hx := locN_ok hx
    have hy := locN_ok hy
    obtain ⟨i, o1, l1, c1, cs1, rfl, rfl, ho1, hi⟩ := own_slots ok ho x px _ rfl
    obtain ⟨j, o2, l2, c2, cs2, rfl, rfl, ho2, hj⟩ := own_slots ok ho1 y py _ rfl
    obtain ⟨rfl, rfl⟩ := own_end ho2
    have hw : swappedStores [.Tuple [.Name x px, .Name y py] k1 p1] (.Tuple [a, b] k2 p2) X.env = pure (some [x, y]) :=
      par2 kd (by rw [lk]; exact hx) (by rw [lk]; exact hy) hl hxy (star a List.mem_cons_self) (star b (List.mem_cons_of_mem _ List.mem_cons_self)) hf hcc
    refine (ps_par ok.calm ok.nd hi hj (ne_ix hi hj hxy) (by rw [ok.sc]; exact hx) (by rw [ok.sc]; exact hy) pa hw rfl).imp fun D σ H h => ?_
    obtain ⟨Ex, env, ds, env', R, ev, k⟩ := asgM_go h
    refine ⟨Ex, env, ds, env', R, ev, fun vs H' ps P R' nd n m => ?_⟩
    obtain ⟨v, w, rfl⟩ := m.len2
    exact ⟨v, w, rfl, (k _ H' ps P R' nd n m).2 _ (Same.refl _)⟩
  · rename_i x px y py z pz a b c
    simp only [Bool.and_eq_true, decide_eq_true_eq] at hp
    obtain ⟨⟨⟨⟨⟨⟨⟨⟨⟨⟨_, hx⟩, hy⟩, hz⟩, hl⟩, hl2⟩, hxy⟩, hxz⟩, hyz⟩, hf⟩, hcc⟩ := hp
    have hx := locN_ok hx
    have hy := locN_ok hy
    have hz := locN_ok hz
    obtain ⟨i, o1, l1, c1, cs1, rfl, rfl, ho1, hi⟩ := own_slots ok ho x px _ rfl
    obtain ⟨j, o2, l2, c2, cs2, rfl, rfl, ho2, hj⟩ := own_slots ok ho1 y py _ rfl
    obtain ⟨m, o3, l3, c3, cs3, rfl, rfl, ho3, hm⟩ := own_slots ok ho2 z pz _ rfl
    obtain ⟨rfl, rfl⟩ := own_end ho3
    have hw : swappedStores [.Tuple [.Name x px, .Name y py, .Name z pz] k1 p1] (.Tuple [a, b, c] k2 p2) X.env = pure (some [x, y, z]) :=
      par3 kd (by rw [lk]; exact hx) (by rw [lk]; exact hy) (by rw [lk]; exact hz) hl hl2 hxy hxz hyz (star a List.mem_cons_self) (star b (List.mem_cons_of_mem _ List.mem_cons_self)) (star c (List.mem_cons_of_mem _ (List.mem_cons_of_mem _ List.mem_cons_self))) hf hcc
    refine (ps_par3 ok.calm ok.nd hi hj hm (ne_ix hi hj hxy) (ne_ix hi hm hxz) (ne_ix hj hm hyz) (by rw [ok.sc]; exact hx) (by rw [ok.sc]; exact hy) (by rw [ok.sc]; exact hz) pa hw rfl).imp fun D σ H h => ?_
    obtain ⟨Ex, env, ds, env', R, ev, k⟩ := asgM_go h
    refine ⟨Ex, env, ds, env', R, ev, fun vs H' ps P R' nd n m => ?_⟩
    obtain ⟨u, v, w, rfl⟩ := m.len3
    exact ⟨u, v, w, rfl, (k _ H' ps P R' nd n m).2 _ (Same.refl _)⟩
  · cases hp
theorem locN_no {sc : Scope} {x : Str} (h : (!locN sc x) = true) : ¬ sc.names.lookup x = some .local := fun e => by
  unfold locN at h
  rw [e] at h
  cases h
theorem own_gs (ok : XOk G S X cf lev) : ∀ {ts : List Expr} {cs : List CE} {l : List (Nat × Bool)}, ownM S ts cs = some l → ∀ (x : Str) (px : Pos) (r : List Expr), ts = .Name x px :: r → ∃ i o l' c cs', l = (i, o) :: l' ∧ cs = c :: cs' ∧ ownM S r cs' = some l' ∧ PG X (.Name x px) (gName i) := by
  intro ts cs l h x px r e
  subst e
  cases cs with
  | nil => simp [ownM] at h
  | cons c cs =>
    simp only [ownM] at h
    split at h
    · rename_i i l' h1 h2
      cases h
      refine ⟨i, _, l', c, cs, rfl, rfl, h2, ?_⟩
      unfold slotSt at h1
      split at h1
      · rename_i e
        simp only [Bool.and_eq_true] at e
        obtain ⟨h3, h4⟩ := ok.sto x e.1.1
        exact pg_name ok.nd (by rw [ok.N]; exact ixOf_ok h1) h3 h4
      · cases h1
    · cases h
theorem p_asgC (ok : XOk G S X cf lev) {tes es : List Expr} {k1 k2 : Nat} {p1 p2 : Pos} {cs : List CE} {l : List (Nat × Bool)} (hp : parC S.sc tes es = true) (hc : cL G n S es = some cs) (ho : ownM S tes cs = some l) :
    PS X (.Assign [.Tuple tes k1 p1] (.Tuple es k2 p2) pos) (TS1 X io cf W fr (.asgM l (toCEs cs))) := by
  have pa : PA X es (TLm X.K io (l.map (·.2)) (evL cf (toCEs cs))) := own_pa ok n es tes cs l hc ho
  have lk : ∀ y, X.env.kindOf y = S.sc.names.lookup y := fun y => by
    show X.env.scope.names.lookup y = _
    rw [ok.sc]
  have two : (2 : Nat) ≤ sizeLine := by rw [sizeLine_eq]; decide
  have three : (3 : Nat) ≤ sizeLine := by rw [sizeLine_eq]; decide
  unfold parC at hp
  split at hp
  · rename_i x px y py a b
    rw [Bool.or_eq_true] at hp
    have hw : swappedStores [.Tuple [.Name x px, .Name y py] k1 p1] (.Tuple [a, b] k2 p2) X.env = pure none := par2n (hp.imp (fun h => by rw [lk]; exact locN_no h) fun h => by rw [lk]; exact locN_no h)
    obtain ⟨i, o1, l1, c1, cs1, rfl, rfl, ho1, g1⟩ := own_gs ok ho x px _ rfl
    obtain ⟨j, o2, l2, c2, cs2, rfl, rfl, ho2, g2⟩ := own_gs ok ho1 y py _ rfl
    obtain ⟨rfl, rfl⟩ := own_end ho2
    refine (ps_asg (pe_tup pa) (pg_tup ok.calm (pgs_cons g1 (pgs_cons g2 pgs_nil)) rfl rfl) rfl hw).imp fun D σ H h => ?_
    obtain ⟨Ex, env, ds, env', R, ev, k⟩ := asgM_go h
    refine ⟨Ex, env, ds, env', R, ev, fun vs H' ps P R' nd n m => ?_⟩
    obtain ⟨v, w, rfl⟩ := m.len2
    exact ⟨two, fun q hq => ⟨q, [v, w], rfl, .of upd_same, rfl, v, [w], rfl, w, [], rfl, rfl, (k _ H' ps P R' nd n m).2 _ (same_upd hq)⟩⟩
  · rename_i x px y py z pz a b c
    rw [Bool.or_eq_true, Bool.or_eq_true] at hp
    have hw : swappedStores [.Tuple [.Name x px, .Name y py, .Name z pz] k1 p1] (.Tuple [a, b, c] k2 p2) X.env = pure none := by
      refine par3n ?_
      rcases hp with (h | h) | h
      · exact .inl (by rw [lk]; exact locN_no h)
      · exact .inr (.inl (by rw [lk]; exact locN_no h))
      · exact .inr (.inr (by rw [lk]; exact locN_no h))
    obtain ⟨i, o1, l1, c1, cs1, rfl, rfl, ho1, g1⟩ := own_gs ok ho x px _ rfl
    obtain ⟨j, o2, l2, c2, cs2, rfl, rfl, ho2, g2⟩ := own_gs ok ho1 y py _ rfl
    obtain ⟨m, o3, l3, c3, cs3, rfl, rfl, ho3, g3⟩ := own_gs ok ho2 z pz _ rfl
    obtain ⟨rfl, rfl⟩ := own_end ho3
    refine (ps_asg (pe_tup pa) (pg_tup ok.calm (pgs_cons g1 (pgs_cons g2 (pgs_cons g3 pgs_nil))) rfl rfl) rfl hw).imp fun D σ H h => ?_
    obtain ⟨Ex, env, ds, env', R, ev, k⟩ := asgM_go h
    refine ⟨Ex, env, ds, env', R, ev, fun vs H' ps P R' nd n m => ?_⟩
    obtain ⟨u, v, w, rfl⟩ := m.len3
    exact ⟨three, fun q hq => ⟨q, [u, v, w], rfl, .of upd_same, rfl, u, [v, w], rfl, v, [w], rfl, w, [], rfl, rfl, (k _ H' ps P R' nd n m).2 _ (same_upd hq)⟩⟩
  · cases hp
end
end Cv
end

section
/-! CvZb: all statements; defs. -/
set_option autoImplicit false
set_option linter.all false
set_option maxRecDepth 100000
set_option maxHeartbeats 4000000
namespace Cv
open PySem PySem.Spec L2
def HS (G : GI) (cf : CallF) (lev W n : Nat) : Prop := ∀ (S : SC) (X : Cx) (io : Nat → Option Addr), XOk G S X cf lev → PassesOwn (model X.prog X.w) X.A X.env X.xe → ∀ st c, cS G n S st = some c → PS X st (TS1 X io cf W S.fr c)
def HSs (G : GI) (cf : CallF) (lev W n : Nat) : Prop := ∀ (S : SC) (X : Cx) (io : Nat → Option Addr), XOk G S X cf lev → PassesOwn (model X.prog X.w) X.A X.env X.xe → ∀ sts cs, cSs G n S sts = some cs → PSs X sts (TSs1 X io cf W S.fr (toSs cs))
section
variable {G : GI} {lev : Nat} {cf : CallF} {W n : Nat}
theorem stepS (hS : HS G cf lev W n) (hSs : HSs G cf lev W n) : HS G cf lev W (n + 1) := by
  intro S X io ok hp st c h
  obtain ⟨hE, hL, _, _, _, hI⟩ := all_ok G cf lev n
  simp only [cS] at h
  split at h
  · cases h; exact p_pass
  · cases h; exact p_brk
  · cases h; exact p_cont
  · cases hf : S.fr with
    | true => rw [hf, if_pos rfl] at h; cases h
    | false =>
      rw [hf, if_neg Bool.false_ne_true] at h
      cases h
      exact p_retN
  · rename_i e p
    split at h
    · rename_i c' h1
      have ke := hE S X io ok e c' h1
      cases hf : S.fr with
      | true =>
        rw [hf, if_pos rfl] at h
        split at h
        · rename_i hn
          cases h
          exact p_retO (ke.new hn)
        · cases h
      | false =>
        rw [hf, if_neg Bool.false_ne_true] at h
        cases h
        exact p_ret ke.pe
    · cases h
  · cases h; exact p_never
  · rename_i e p
    split at h
    · cases h
    · rename_i hc
      cases q : cE G n S e with
      | none => rw [q] at h; cases h
      | some c' =>
        rw [q] at h
        cases h
        exact p_ex (by simpa using hc) (hE S X io ok e c' q).pe
  · rename_i t a b p
    split at h
    · rename_i cc ca cb h1 h2 h3
      cases h
      exact p_ife (hE S X io ok t cc h1).ptT (hSs S X io ok hp a ca h2) (hSs S X io ok hp b cb h3)
    · cases h
  · rename_i t b o p
    split at h
    · split at h
      · rename_i cc cb h1 h2
        cases h
        exact p_whl hp (hE S X io ok t cc h1).ptT (hSs S X io ok hp b cb h2)
      · cases h
    · cases h
  · rename_i t it b o p
    split at h
    · split at h
      · split at h
        · rename_i ct ci cb h1 h2 h3
          cases h
          obtain ⟨i1, i2, _⟩ := hI S X io ok it ci h2
          exact p_for hp ok.calm i1 (i2 t) ((cT_ok n).1 S X io ok t ct h1).1 (hSs S X io ok hp b cb h3)
        · cases h
      · cases h
    · cases h
  · rename_i t op e p
    split at h
    · rename_i x q o ho
      split at h
      · rename_i i c' h1 h2
        split at h
        · rename_i hb
          cases h
          have hN : X.N[i]? = some x ∧ Loc X.env.scope x ∧ (X.fn x = true ∨ X.env.scope.names.lookup x = some .local) := by
            unfold slotSt at h1
            split at h1
            · rename_i e
              simp only [Bool.and_eq_true] at e
              exact ⟨by rw [ok.N]; exact ixOf_ok h1, ok.sto x e.1.1⟩
            · cases h1
          exact p_aug ho (by simpa using hb) ok.nd hN.1 hN.2.1 hN.2.2 (hE S X io ok e c' h2).pe
        · cases h
      · cases h
    · cases h
  · rename_i ts e p
    split at h
    · rename_i x q
      split at h
      · rename_i i c' h1 h2
        have ke := hE S X io ok e c' h2
        have hN : X.N[i]? = some x ∧ Loc X.env.scope x ∧ (X.fn x = true ∨ X.env.scope.names.lookup x = some .local) := by
          unfold slotSt at h1
          split at h1
          · rename_i e
            simp only [Bool.and_eq_true] at e
            exact ⟨by rw [ok.N]; exact ixOf_ok h1, ok.sto x e.1.1⟩
          · cases h1
        have hset : isComp e = true → PS X (.Assign [.Name x q] e p) (tAsg (TF1 X io cf c') (gName i)) := fun hc => by
          cases e with
          | ListComp elt gs scope cp => exact c_set ok h1 h2
          | SetComp _ _ _ _ => cases n <;> simp [cE] at h2
          | DictComp _ _ _ _ _ => cases n <;> simp [cE] at h2
          | _ => simp [isComp] at hc
        split at h
        · rename_i hf
          cases h
          rw [Bool.and_eq_true] at hf
          cases hc : isComp e with
          | true => exact p_asgO (hset hc)
          | false => exact p_asgO (ps_set ok.nd hN.1 hN.2.1 (ke.new hf.2) (swaps_ok hc) hN.2.2)
        · cases h
          cases hc : isComp e with
          | true => exact p_asgN (hset hc) fun _ _ _ q => TF.of q
          | false => exact p_asgN (ps_set ok.nd hN.1 hN.2.1 ke.pe (swaps_ok hc) hN.2.2) fun _ _ _ q => q
      · cases h
    · rename_i x q k sp
      split at h
      · rename_i hk
        simp only [Bool.and_eq_true, Bool.not_eq_true'] at hk
        split at h
        · rename_i i ck c' h1 h2 h3
          cases h
          exact p_setix ok.un hk.1 hk.2 (ok.slot h1) (hE S X io ok k ck h2).pe (hE S X io ok e c' h3).pe
        · cases h
      · cases h
    · rename_i tes k0 tp
      split at h
      · rename_i es k1 p1
        split at h
        · rename_i hpar
          split at h
          · rename_i cs h1
            split at h
            · rename_i l h2
              cases h
              rw [Bool.or_eq_true] at hpar
              rcases hpar with hpar | hpar
              · exact p_asgM ok hpar h1 h2
              · exact p_asgC ok hpar h1 h2
            · cases h
          · cases h
        · cases h
      · rename_i hne
        split at h
        · cases h
        · rename_i hc
          split at h
          · rename_i ct c' h1 h2
            cases h
            obtain ⟨k1, k2, k3⟩ := (cT_ok n).2 S X io ok tes ct h1
            exact p_asgT (by simpa using hc) (fun es k p z => hne es k p z) (hE S X io ok e c' h2).pe (g_tup ok.calm k2 k3 k1)
          · cases h
    · cases h
  · cases h
theorem stepSs (hS : HS G cf lev W n) (hSs : HSs G cf lev W n) : HSs G cf lev W (n + 1) := by
  intro S X io ok hp sts cs h
  simp only [cSs] at h
  split at h
  · cases h; exact p_nil
  · rename_i s r
    split at h
    · cases h
    rename_i c h1
    cases q : cSs G n S r with
    | none => rw [q] at h; cases h
    | some cs' =>
      rw [q] at h
      cases h
      exact p_cons (hS S X io ok hp s c h1) (hSs S X io ok hp r cs' q)
end
theorem allS (G : GI) (cf : CallF) (lev W : Nat) : ∀ n, HS G cf lev W n ∧ HSs G cf lev W n
  | 0 => ⟨fun _ _ _ _ _ _ _ h => by simp [cS] at h, fun _ _ _ _ _ _ _ h => by simp [cSs] at h⟩
  | n + 1 => ⟨stepS (allS G cf lev W n).1 (allS G cf lev W n).2, stepSs (allS G cf lev W n).1 (allS G cf lev W n).2⟩

/-! ### defs -/
section
variable {K : PySem.W.Frag} {io : Nat → Option Addr} {H : Hp}
theorem tail_sl {ds : List D} {m i : Nat} {s : Sl} (h : (ds.map Sl.val ++ List.replicate m Sl.no)[i]? = some s) : s = .no ∨ ∃ d, s = .val d ∧ ds[i]? = some d := by
  by_cases hi : i < ds.length
  · rw [List.getElem?_append_left (by rw [List.length_map]; exact hi), List.getElem?_map, List.getElem?_eq_getElem hi] at h
    cases h
    exact .inr ⟨ds[i], rfl, List.getElem?_eq_getElem hi⟩
  · rw [List.getElem?_append_right (by rw [List.length_map]; omega), List.getElem?_replicate] at h
    split at h
    · cases h; exact .inl rfl
    · cases h
theorem start_at {N : List Str} {vs : List V} {i : Nat} {v : V} (h : vs[i]? = some v) : (L2.start N vs)[i]? = some (some v) := by
  unfold L2.start
  rw [List.getElem?_append_left (by rw [List.length_map]; exact (List.getElem?_eq_some_iff.mp h).1), List.getElem?_map, h]
  rfl
theorem start_len {N : List Str} {vs : List V} (h : vs.length ≤ N.length) : (L2.start N vs).length = N.length := by
  unfold L2.start
  rw [List.length_append, List.length_map, List.length_replicate]
  omega
/-- values alone -/
theorem rel_v {N : List Str} {Z : Addr → Prop} {ds : List D} {vs : List V} {m : Nat} (zt : ∀ a, Z a → H a ≠ none) (r : RpL K H Z ds vs) (hl : ds.length + m = N.length) :
    Rel K io Z H (L2.start N vs) (ds.map .val ++ List.replicate m .no) ∧ ∀ b, ¬ Ow (L2.start N vs) (ds.map .val ++ List.replicate m .no) b := by
  have no : ∀ i b, ¬ Own (L2.start N vs) (ds.map .val ++ List.replicate m .no) i b := fun i b o => by
    obtain ⟨⟨d, q⟩, _⟩ := o
    rcases q with q | q <;> rcases tail_sl q with z | ⟨_, z, _⟩ <;> cases z
  refine ⟨⟨by rw [start_len (by rw [r.length]; omega), List.length_append, List.length_map, List.length_replicate, hl], fun i s q => ?_, fun i j a o _ => absurd o (no i a), zt⟩, fun b ⟨i, o⟩ => no i b o⟩
  rcases tail_sl q with rfl | ⟨d, rfl, hd⟩
  · trivial
  · obtain ⟨v, hv, rv⟩ := r.get hd
    exact ⟨v, start_at hv, Rp.ft (Ft.less fun a z => z.elim (fun ⟨i, o⟩ => absurd o (no i a)) _root_.id) _ _ rv⟩
/-- a first slot of another kind -/
theorem rel_f {N : List Str} {Z Ex : Addr → Prop} {ds : List D} {ws : List V} {m : Nat} {a : Addr} {s0 : Sl} (zt : ∀ a, Ex a → H a ≠ none) (r : RpL K H Z ds ws) (hl : ds.length + m + 1 = N.length) (h0 : (∃ d, s0 = .io d) ∨ ∃ d, s0 = .ro d)
    (hz : ∀ b, Zs (L2.start N (.ref a :: ws)) (s0 :: (ds.map .val ++ List.replicate m .no)) Ex b → Z b) (hs : SlotOk K io Ex H (L2.start N (.ref a :: ws)) (Zs (L2.start N (.ref a :: ws)) (s0 :: (ds.map .val ++ List.replicate m .no)) Ex) 0 s0) :
    Rel K io Ex H (L2.start N (.ref a :: ws)) (s0 :: (ds.map .val ++ List.replicate m .no)) := by
  have only : ∀ i b, Own (L2.start N (.ref a :: ws)) (s0 :: (ds.map .val ++ List.replicate m .no)) i b → i = 0 := fun i b o => by
    cases i with
    | zero => rfl
    | succ i =>
      obtain ⟨⟨d, q⟩, _⟩ := o
      rw [List.getElem?_cons_succ] at q
      rcases q with q | q <;> rcases tail_sl q with z | ⟨_, z, _⟩ <;> cases z
  refine ⟨by rw [start_len (by rw [List.length_cons, r.length]; omega), List.length_cons, List.length_append, List.length_map, List.length_replicate, hl], fun i s q => ?_, fun i j b o o' => by rw [only i b o, only j b o'], zt⟩
  cases i with
  | zero =>
    cases q
    exact hs
  | succ i =>
    rw [List.getElem?_cons_succ] at q
    rcases tail_sl q with rfl | ⟨d, rfl, hd⟩
    · trivial
    · obtain ⟨v, hv, rv⟩ := r.get hd
      exact ⟨v, start_at (by rw [List.getElem?_cons_succ]; exact hv), Rp.ft (Ft.less hz) _ _ rv⟩
end
/-- what is seen of a def's text -/
structure DOk (G : GI) (fs : List CF) (j : Nat) (x : Str) (st : Stmt) (ps : List Str) (S : SC) (F : CF) : Prop where
  g : G.fns[j]? = some (x, F.k, F.np)
  f : fs[j]? = some F
  sc : S.sc = defScope st
  raw : S.raw = defScope st
  fr : S.fr = decide (F.k = .rn)
  scope : FnScope S.N ps (defScope st)
  np : F.np = ps.length
  n : F.n = S.N.length
  cs : (cSs G 100 S (defBody st)).map toSs = some F.body
  bind : ∀ (kV doc pm : Value) (an : Option Addr) (cdv ct : Value) (us : List Value), us.length = ps.length → bindArgs (PySem.W.fnOf x x (defArgs st) (defBody st) (defScope st) .none kV doc pm an cdv ct) ⟨us, []⟩ = pure (ps.zip us)
end Cv
end

section
/-! CvZc: each def keeps its promise, by levels. -/
set_option autoImplicit false
set_option linter.all false
set_option maxRecDepth 100000
set_option maxHeartbeats 4000000
namespace Cv
open PySem PySem.Spec L2
section
variable {P : Program} {w : World} {K : PySem.W.Frag} {mg : Str → Option Value} {base : Heap} {G : GI} {fs : List CF} {W lev : Nat}
theorem runF_inv {cf : CallF} {F : CF} {args : List D} {r : D × D} (h : runF cf W F args = some r) : args.length = F.np ∧ ∃ fl e, exSs cf W F.body (startE F.k args ++ List.replicate (F.n - F.np) .no) = some (fl, e) ∧ ∃ o, ioOut F.k e = some o ∧ ((fl = .nx ∧ F.k ≠ .rn ∧ r = (.non, o)) ∨ ∃ d, fl = .rt d ∧ r = (d, o)) := by
  unfold runF at h
  split at h
  · rename_i hl
    refine ⟨by simpa using hl, ?_⟩
    split at h
    · rename_i e h1
      split at h
      · cases h
      rename_i nr
      split at h
      · rename_i o h2
        cases h
        exact ⟨.nx, e, h1, o, h2, .inl ⟨rfl, nr, rfl⟩⟩
      · cases h
    · rename_i d e h1
      split at h
      · rename_i o h2
        cases h
        exact ⟨.rt d, e, h1, o, h2, .inr ⟨d, rfl, rfl⟩⟩
      · cases h
    · cases h
  · cases h
theorem xok_def {j : Nat} {x : Str} {st : Stmt} {ps : List Str} {S : SC} {F : CF} (d : DOk G fs j x st ps S F) {f : Addr} {cdv : Value} {A : Around} {outer : List PySem.Env} {s : Shared} {H : Hp} {E : XK} {cf : CallF}
    (hr : Room lev (A.deeper (PyProof.Rows.envOfC x (defScope st) s.heap.objs.size f cdv))) (hfree : ∀ x ∈ G.free, mg x = none) (hcon : ∀ x d, G.consts.lookup x = some d → ∃ u v, mg x = some u ∧ RelV v u ∧ ∀ H Z, Rp K H Z d v)
    (hfn : ∀ j x k np, G.fns[j]? = some (x, k, np) → C8.Cal P w K mg base lev x (spF K k np (cf j)) []) (hlen : ∀ j x k np, G.fns[j]? = some (x, k, np) → ∀ ds r, cf j ds = some r → ds.length = np) :
    XOk G S (cxOf C8.CX0 P w K mg base S.N x (defScope st) f cdv A outer s H E).nox cf lev :=
  ⟨rfl, d.scope.nd, d.sc.symm, by rw [d.sc]; exact d.scope.kind, rfl, (by
    have h1 := hr.un
    show (A.deeper (PyProof.Rows.envOfC x (defScope st) s.heap.objs.size f cdv)).units + 65 < _
    omega), hr, fun y hy => (by
      rw [d.raw] at hy
      unfold stoB at hy
      refine ⟨?_, .inl rfl⟩
      split at hy
      · exact .inl (by assumption)
      · exact .inr (by assumption)
      · cases hy), hfree, hcon, hfn, hlen⟩
theorem def_ok {j : Nat} {x : Str} {st : Stmt} {ps : List Str} {S : SC} {F : CF} (d : DOk G fs j x st ps S F) {f : Addr} {fd : FuncData} (FD : FunD K x x (defArgs st) (defBody st) (defScope st) [] [] f fd) (hmg : mg x = some (.ref f))
    (hfree : ∀ x ∈ G.free, mg x = none) (hcon : ∀ x d, G.consts.lookup x = some d → ∃ u v, mg x = some u ∧ RelV v u ∧ ∀ H Z, Rp K H Z d v)
    (hfn : ∀ j x k np, G.fns[j]? = some (x, k, np) → C8.Cal P w K mg base lev x (spF K k np (callI fs W lev j)) []) (hlen : ∀ j x k np, G.fns[j]? = some (x, k, np) → ∀ ds r, callI fs W lev j ds = some r → ds.length = np) :
    FnOk P w K mg base C8.CX0 (lev + 1) f fd ps (spF K F.k F.np (callI fs W (lev + 1) j)) := by
  have hcall : ∀ args, callI fs W (lev + 1) j args = runF (callI fs W lev) W F args := fun args => by
    simp only [callI, d.f]
  have hps : ps.length ≤ S.N.length := by
    have := congrArg List.length d.scope.pre
    rw [List.length_take] at this
    omega
  have hnn : F.n - F.np + F.np = S.N.length := by have h1 := d.np; have h2 := d.n; omega
  refine FD.ok d.scope (fun vs H Q E h => by rw [h.1]; exact d.np) fun cdv A outer s H vs Q E hr h => ?_
  have body : ∀ io, PSs (cxOf C8.CX0 P w K mg base S.N x (defScope st) f cdv A outer s H E).nox (defBody st) (TSo K io S.fr (exSs (callI fs W lev) W F.body)) := fun io => by
    have ok := xok_def d (E := E) (outer := outer) (H := H) (s := s) (A := A) (f := f) (cdv := cdv) hr hfree hcon hfn hlen
    cases q : cSs G 100 S (defBody st) with
    | none => have := d.cs; rw [q] at this; cases this
    | some cs =>
      have e := d.cs
      rw [q] at e
      have e : toSs cs = F.body := Option.some.inj e
      rw [← e]
      exact (allS G (callI fs W lev) lev W 100).2 S _ io ok PassesOwn.never _ cs q
  have fr : S.fr = decide (F.k = .rn) := d.fr
  cases hk : F.k with
  | v =>
    rw [hk] at h
    obtain ⟨hl, Z, ds, r, o, zt, rl, ev, k⟩ := h
    rw [hcall] at ev
    obtain ⟨ha, fl, e, hex, o', ho, hfl⟩ := runF_inv ev
    refine ⟨_, (body fun _ => none).nox, ?_⟩
    have he : startE F.k ds = ds.map .val := by rw [hk]; rfl
    rw [he] at hex
    obtain ⟨R, no⟩ := rel_v (K := K) (io := fun _ => none) (N := S.N) (m := F.n - F.np) zt rl (by omega)
    refine ⟨Z, _, fl, e, R, hex, ?_⟩
    have sm : ∀ {σ' H'}, Pst K (fun _ => none) Z H (L2.start S.N vs) (ds.map .val ++ List.replicate (F.n - F.np) .no) H' σ' e → Same H H' := fun p b u q => (p.ft b u q (no b)).1
    rcases hfl with ⟨rfl, nr, hr2⟩ | ⟨d', rfl, hr2⟩
    · cases hr2
      exact fun σ' H' p => k .non H' (sm p) rp_non
    · cases hr2
      have : S.fr = false := by rw [fr, hk]; rfl
      simp only [Then, this, Bool.false_eq_true, if_false]
      exact fun σ' H' v p rv => k v H' (sm p) (Rp.ft (Ft.less fun _ z => .inr z) _ _ rv)
  | ro =>
    rw [hk] at h
    obtain ⟨hl, Z, a, us, ws, xs, ds, r, o, zt, rfl, ra, rx, rl, ev, k⟩ := h
    rw [hcall] at ev
    obtain ⟨ha, fl, e, hex, o', ho, hfl⟩ := runF_inv ev
    refine ⟨_, (body fun _ => none).nox, ?_⟩
    have he : startE F.k (.lst xs :: ds) = .ro (.lst xs) :: ds.map .val := by rw [hk]; rfl
    rw [he] at hex
    rw [List.length_cons] at ha
    have ow0 : ∀ b, ¬ Ow (L2.start S.N (.ref a :: ws)) (.ro (.lst xs) :: (ds.map .val ++ List.replicate (F.n - F.np) .no)) b := fun b ⟨i, o⟩ => by
      obtain ⟨⟨d, q⟩, _⟩ := o
      cases i with
      | zero => rcases q with q | q <;> cases q
      | succ i =>
        rw [List.getElem?_cons_succ] at q
        rcases q with q | q <;> rcases tail_sl q with z | ⟨_, z, _⟩ <;> cases z
    have hz : ∀ b, Zs (L2.start S.N (.ref a :: ws)) (.ro (.lst xs) :: (ds.map .val ++ List.replicate (F.n - F.np) .no)) Z b → Z b := fun b z => z.elim (fun z => absurd z (ow0 b)) _root_.id
    have R : Rel K (fun _ => none) Z H (L2.start S.N (.ref a :: ws)) (.ro (.lst xs) :: (ds.map .val ++ List.replicate (F.n - F.np) .no)) :=
      rel_f zt rl (by omega) (.inr ⟨_, rfl⟩) hz ⟨a, us, xs, rfl, start_at rfl, ra.ft (Ft.less hz), RpL.ft (Ft.less hz) _ _ rx⟩
    refine ⟨Z, _, fl, e, R, hex, ?_⟩
    have sm : ∀ {σ' H'}, Pst K (fun _ => none) Z H (L2.start S.N (.ref a :: ws)) (.ro (.lst xs) :: (ds.map .val ++ List.replicate (F.n - F.np) .no)) H' σ' e → Same H H' := fun p b u q => (p.ft b u q (ow0 b)).1
    rcases hfl with ⟨rfl, nr, hr2⟩ | ⟨d', rfl, hr2⟩
    · cases hr2
      exact fun σ' H' p => k .non H' (sm p) rp_non
    · cases hr2
      have : S.fr = false := by rw [fr, hk]; rfl
      simp only [Then, this, Bool.false_eq_true, if_false]
      exact fun σ' H' v p rv => k v H' (sm p) (Rp.ft (Ft.less fun _ z => .inr z) _ _ rv)
  | rn =>
    rw [hk] at h
    obtain ⟨hl, Z, a, us, ws, xs, ds, r, o, zt, rfl, ra, rx, rl, ev, k⟩ := h
    rw [hcall] at ev
    obtain ⟨ha, fl, e, hex, o', ho, hfl⟩ := runF_inv ev
    refine ⟨_, (body fun _ => none).nox, ?_⟩
    have he : startE F.k (.lst xs :: ds) = .ro (.lst xs) :: ds.map .val := by rw [hk]; rfl
    rw [he] at hex
    rw [List.length_cons] at ha
    have ow0 : ∀ b, ¬ Ow (L2.start S.N (.ref a :: ws)) (.ro (.lst xs) :: (ds.map .val ++ List.replicate (F.n - F.np) .no)) b := fun b ⟨i, o⟩ => by
      obtain ⟨⟨d, q⟩, _⟩ := o
      cases i with
      | zero => rcases q with q | q <;> cases q
      | succ i =>
        rw [List.getElem?_cons_succ] at q
        rcases q with q | q <;> rcases tail_sl q with z | ⟨_, z, _⟩ <;> cases z
    have hz : ∀ b, Zs (L2.start S.N (.ref a :: ws)) (.ro (.lst xs) :: (ds.map .val ++ List.replicate (F.n - F.np) .no)) Z b → Z b := fun b z => z.elim (fun z => absurd z (ow0 b)) _root_.id
    have R : Rel K (fun _ => none) Z H (L2.start S.N (.ref a :: ws)) (.ro (.lst xs) :: (ds.map .val ++ List.replicate (F.n - F.np) .no)) :=
      rel_f zt rl (by omega) (.inr ⟨_, rfl⟩) hz ⟨a, us, xs, rfl, start_at rfl, ra.ft (Ft.less hz), RpL.ft (Ft.less hz) _ _ rx⟩
    have hfr : S.fr = true := by rw [fr, hk]; rfl
    refine ⟨Z, _, fl, e, R, hex, ?_⟩
    have sm : ∀ {σ' H'}, Pst K (fun _ => none) Z H (L2.start S.N (.ref a :: ws)) (.ro (.lst xs) :: (ds.map .val ++ List.replicate (F.n - F.np) .no)) H' σ' e → Same H H' := fun p b u q => (p.ft b u q (ow0 b)).1
    rcases hfl with ⟨rfl, nr, hr2⟩ | ⟨d', rfl, hr2⟩
    · exact absurd hk nr
    · cases hr2
      simp only [Then, hfr, if_true]
      exact fun σ' H' p ps _ n c => k p H' (sm ps) (n.elim _root_.id fun z => absurd z (ow0 p)) (c.ft (Ft.less fun b z => z.elim (fun z => .inr (.inl z)) fun z => .inr (.inr z)) fun _ q => q)
  | io =>
    rw [hk] at h
    obtain ⟨hl, Z, a, ws, d0, ds, r, o, zt, rfl, za, ca, rl, ev, k⟩ := h
    rw [hcall] at ev
    obtain ⟨ha, fl, e, hex, o', ho, hfl⟩ := runF_inv ev
    refine ⟨_, (body fun _ => some a).nox, ?_⟩
    have he : startE F.k (d0 :: ds) = .io d0 :: ds.map .val := by rw [hk]; rfl
    rw [he] at hex
    rw [List.length_cons] at ha
    have ow0 : ∀ b, Ow (L2.start S.N (.ref a :: ws)) (.io d0 :: (ds.map .val ++ List.replicate (F.n - F.np) .no)) b → b = a := fun b ⟨i, o⟩ => by
      obtain ⟨⟨d, q⟩, e⟩ := o
      cases i with
      | zero =>
        have : (L2.start S.N (.ref a :: ws))[0]? = some (some (.ref a)) := start_at rfl
        rw [this] at e
        cases e
        rfl
      | succ i =>
        rw [List.getElem?_cons_succ] at q
        rcases q with q | q <;> rcases tail_sl q with z | ⟨_, z, _⟩ <;> cases z
    have hz : ∀ b, Zs (L2.start S.N (.ref a :: ws)) (.io d0 :: (ds.map .val ++ List.replicate (F.n - F.np) .no)) (fun b => Z b ∧ b ≠ a) b → Z b := fun b z => z.elim (fun z => by rw [ow0 b z]; exact za) (·.1)
    have R : Rel K (fun _ => some a) (fun b => Z b ∧ b ≠ a) H (L2.start S.N (.ref a :: ws)) (.io d0 :: (ds.map .val ++ List.replicate (F.n - F.np) .no)) :=
      rel_f (fun b z => zt b z.1) rl (by omega) (.inl ⟨_, rfl⟩) hz ⟨a, rfl, start_at rfl, fun z => z.2 rfl, ca.ft (Ft.less hz) fun _ q => q⟩
    have hfr : S.fr = false := by rw [fr, hk]; rfl
    refine ⟨_, _, fl, e, R, hex, ?_⟩
    have sm : ∀ {σ' H'}, Pst K (fun _ => some a) (fun b => Z b ∧ b ≠ a) H (L2.start S.N (.ref a :: ws)) (.io d0 :: (ds.map .val ++ List.replicate (F.n - F.np) .no)) H' σ' e → ∀ b u, H b = some u → b ≠ a → H' b = some u := fun p b u q nb => (p.ft b u q fun z => nb (ow0 b z)).1
    have out : ∀ {σ' H'}, Rel K (fun _ => some a) (fun b => Z b ∧ b ≠ a) H' σ' e → (∀ b, Z b → Zs σ' e (fun b => Z b ∧ b ≠ a) b) ∧ Ct K H' Z a o' := fun {σ' H'} R' => by
      rw [hk] at ho
      simp only [ioOut] at ho
      split at ho
      · rename_i d1 q
        cases ho
        obtain ⟨b, eb, es, nb, c⟩ := R'.slot 0 _ q
        cases eb
        have hz' : ∀ b, Z b → Zs σ' e (fun b => Z b ∧ b ≠ a) b := fun b z => by
          by_cases hb : b = a
          · subst hb; exact .inl ⟨0, ⟨_, .inr q⟩, es⟩
          · exact .inr ⟨z, hb⟩
        exact ⟨hz', c.ft (Ft.less hz') fun _ q => q⟩
      · cases ho
    rcases hfl with ⟨rfl, nr, hr2⟩ | ⟨d', rfl, hr2⟩
    · cases hr2
      exact fun σ' H' p => k .non H' (sm p) (out p.rel).2 rp_non
    · cases hr2
      simp only [Then, hfr, Bool.false_eq_true, if_false]
      exact fun σ' H' v p rv => k v H' (sm p) (out p.rel).2 (Rp.ft (Ft.less (out p.rel).1) _ _ rv)
theorem level_len (hd : ∀ j x k np, G.fns[j]? = some (x, k, np) → ∃ st ps S F f fd, DOk G fs j x st ps S F ∧ FunD K x x (defArgs st) (defBody st) (defScope st) [] [] f fd ∧ mg x = some (.ref f)) :
    ∀ lev j x k np, G.fns[j]? = some (x, k, np) → ∀ ds r, callI fs W lev j ds = some r → ds.length = np := by
  intro lev j x k np hj ds r h
  cases lev with
  | zero => simp [callI] at h
  | succ lev =>
    obtain ⟨st, ps, S, F, f, fd, d, _, _⟩ := hd j x k np hj
    have e := d.g
    rw [hj] at e
    cases e
    simp only [callI, d.f] at h
    exact (runF_inv h).1
/-- every def, at every level -/
theorem level (hd : ∀ j x k np, G.fns[j]? = some (x, k, np) → ∃ st ps S F f fd, DOk G fs j x st ps S F ∧ FunD K x x (defArgs st) (defBody st) (defScope st) [] [] f fd ∧ mg x = some (.ref f))
    (hfree : ∀ x ∈ G.free, mg x = none) (hcon : ∀ x d, G.consts.lookup x = some d → ∃ u v, mg x = some u ∧ RelV v u ∧ ∀ H Z, Rp K H Z d v) :
    ∀ lev j x k np, G.fns[j]? = some (x, k, np) → C8.Cal P w K mg base lev x (spF K k np (callI fs W lev j)) [] := by
  have hlen := level_len (W := W) hd
  intro lev
  induction lev with
  | zero =>
    intro j x k np hj
    obtain ⟨st, ps, S, F, f, fd, d, FD, hm⟩ := hd j x k np hj
    have e := d.g
    rw [hj] at e
    cases e
    have no : ∀ vs H Q E, ¬ spF K F.k F.np (callI fs W 0 j) vs H Q E := fun vs H Q E h => by
      obtain ⟨_, h⟩ := h
      cases hk : F.k <;> rw [hk] at h
      · obtain ⟨_, _, _, _, _, _, ev, _⟩ := h; simp [callI] at ev
      · obtain ⟨_, _, _, _, _, _, _, _, _, _, _, _, ev, _⟩ := h; simp [callI] at ev
      · obtain ⟨_, _, _, _, _, _, _, _, _, _, _, _, _, ev, _⟩ := h; simp [callI] at ev
      · obtain ⟨_, _, _, _, _, _, _, _, _, _, _, _, _, ev, _⟩ := h; simp [callI] at ev
    exact ⟨f, fd, ps, [], ⟨fun vs H Q E h => absurd h (no vs H Q E), fun A outer s H args us vs Q E _ _ _ _ h => absurd h (no vs H Q E)⟩, hm, FD.kp, FD.bindsN d.bind, .nil⟩
  | succ lev ih =>
    intro j x k np hj
    obtain ⟨st, ps, S, F, f, fd, d, FD, hm⟩ := hd j x k np hj
    have e := d.g
    rw [hj] at e
    cases e
    exact ⟨f, fd, ps, [], def_ok d FD hm hfree hcon ih (hlen lev), hm, FD.kp, FD.bindsN d.bind, .nil⟩
end
end Cv
end

section
/-! CvHk: what the module's names stand for, tuples too. -/
set_option autoImplicit false
set_option linter.all false
set_option maxRecDepth 100000
namespace Cv
open PySem PySem.Spec L2
mutual
/-- a value that stands for a constant, for good -/
def cB (K : PySem.W.Frag) : D → Value → Bool
  | .non, .none => true
  | .bl b, .bool c => b == c
  | .int i, .int j _ => decide (i = j)
  | .str z, .str x _ => decide (x = ⟨z.toArray⟩)
  | .tup ds, .ref a => match K.lookup a with
    | some ⟨.type c, none, .seq its _, _⟩ => decide (c = "tuple") && decide (its.size ≤ sizeLine) && cBL K ds its.toList
    | _ => false
  | _, _ => false
def cBL (K : PySem.W.Frag) : List D → List Value → Bool
  | [], [] => true
  | d :: ds, u :: us => cB K d u && cBL K ds us
  | _, _ => false
end
mutual
theorem cB_ok {K : PySem.W.Frag} : ∀ (d : D) (u : Value), cB K d u = true → ∃ v, RelV v u ∧ ∀ (H : Hp) (Z : Addr → Prop), Rp K H Z d v
  | .non, u, h => by
    cases u <;> first | exact ⟨.non, rfl, fun _ _ => by simp only [Rp]⟩ | (simp only [cB] at h; cases h)
  | .bl b, u, h => by
    cases u with
    | bool c =>
      simp only [cB, beq_iff_eq] at h
      subst h
      exact ⟨.bl b, rfl, fun _ _ => by simp only [Rp]⟩
    | _ => simp only [cB] at h; cases h
  | .int i, u, h => by
    cases u with
    | int j t =>
      simp only [cB, decide_eq_true_eq] at h
      subst h
      exact ⟨.int i, ⟨t, rfl⟩, fun _ _ => by simp only [Rp]⟩
    | _ => simp only [cB] at h; cases h
  | .str z, u, h => by
    cases u with
    | str x t =>
      simp only [cB, decide_eq_true_eq] at h
      subst h
      exact ⟨.str ⟨z.toArray⟩, ⟨t, rfl⟩, fun _ _ => by simp only [Rp]⟩
    | _ => simp only [cB] at h; cases h
  | .tup ds, u, h => by
    cases u with
    | ref a =>
      simp only [cB] at h
      split at h
      · rename_i c its n sl q
        simp only [Bool.and_eq_true, decide_eq_true_eq] at h
        obtain ⟨⟨rfl, hz⟩, hl⟩ := h
        obtain ⟨vs, hv, hr⟩ := cBL_ok ds its.toList hl
        refine ⟨.ref a, rfl, fun H Z => ?_⟩
        simp only [Rp]
        exact ⟨a, vs, rfl, .inr ⟨_, its, n, q, rfl, rfl, rfl, hz, hv⟩, hr H Z⟩
      · cases h
    | _ => simp only [cB] at h; cases h
  | .lst _, u, h => by cases u <;> (simp only [cB] at h; cases h)
  | .dic _ _, u, h => by cases u <;> (simp only [cB] at h; cases h)
theorem cBL_ok {K : PySem.W.Frag} : ∀ (ds : List D) (us : List Value), cBL K ds us = true → ∃ vs, Vals vs us ∧ ∀ (H : Hp) (Z : Addr → Prop), RpL K H Z ds vs
  | [], [], _ => ⟨[], .nil, fun _ _ => RpL.nil⟩
  | [], _ :: _, h => by simp only [cBL] at h; cases h
  | _ :: _, [], h => by simp only [cBL] at h; cases h
  | d :: ds, u :: us, h => by
    simp only [cBL, Bool.and_eq_true] at h
    obtain ⟨v, h1, h2⟩ := cB_ok d u h.1
    obtain ⟨vs, h3, h4⟩ := cBL_ok ds us h.2
    exact ⟨v :: vs, .cons h1 h3, fun H Z => RpL.cons (h2 H Z) (h4 H Z)⟩
end
/-- all the module's constants -/
def conB (cs : List (Str × D)) (K : PySem.W.Frag) : Bool := cs.all fun q => match PySem.W.nsIn K mainGlobals q.1 with
  | some (some u) => cB K q.2 u
  | _ => false
theorem conB_ok {cs : List (Str × D)} {K : PySem.W.Frag} {h : Heap} {mg : Str → Option Value} (X : K.In h) (Gm : h.Ns mainGlobals mg) (c : conB cs K = true) : ∀ x d, cs.lookup x = some d → ∃ u v, mg x = some u ∧ RelV v u ∧ ∀ H Z, Rp K H Z d v := by
  intro x d e
  have hm : ∀ (l : List (Str × D)), l.lookup x = some d → (x, d) ∈ l := by
    intro l
    induction l with
    | nil => intro z; cases z
    | cons q l ih =>
      intro z
      obtain ⟨y, b⟩ := q
      rw [List.lookup_cons] at z
      cases hy : x == y with
      | true =>
        rw [hy] at z
        have : b = d := Option.some.inj z
        rw [← beq_iff_eq.1 hy, ← this]
        exact List.mem_cons_self
      | false =>
        rw [hy] at z
        exact List.mem_cons_of_mem _ (ih z)
  have := List.all_eq_true.1 c _ (hm cs e)
  cases q : PySem.W.nsIn K mainGlobals x with
  | none => rw [q] at this; cases this
  | some o =>
    cases o with
    | none => rw [q] at this; cases this
    | some u =>
      rw [q] at this
      obtain ⟨v, h1, h2⟩ := cB_ok d u this
      exact ⟨u, v, PySem.W.mg_of X Gm q, h1, h2⟩
/-! ### the hook -/
abbrev AlC : Type := He.AlD × Bool
def obC (n : Nat) (fa : List He.Fa) (fn : List He.DefD) (cs : List (Str × D)) (g : Addr → Option Obj) : AlC := (He.obsDG n fa fn g, conB cs (He.frG g (He.asD g n)))
def hkC (n : Nat) (fa : List He.Fa) (fn : List He.DefD) (cs : List (Str × D)) : PySem.W.Hook where
  α := AlC
  obs := fun s => obC n fa fn cs s.heap.get?
  val := fun _ => (He.valD fn, true)
  says := fun _ h => ∃ K : PySem.W.Frag, K.In h ∧ He.SaysD fa fn K ∧ conB cs K = true
  of := fun _ _ e => ⟨_, He.frG_in, congrArg (fun z : AlC => z.1) e, congrArg (fun z : AlC => z.2) e⟩
  keeps := fun _ _ _ ⟨K, hK, c⟩ k => ⟨K, PySem.W.Frag.In.keeps hK k, c⟩
theorem obC_eq {n : Nat} {fa : List He.Fa} {fn : List He.DefD} {cs : List (Str × D)} {g : Addr → Option Obj} {s : Shared} (h : ∀ a, g a = s.heap.get? a) : obC n fa fn cs g = (hkC n fa fn cs).obs s := by
  have e : g = s.heap.get? := funext h
  rw [e]
  rfl
end Cv
end

section
/-! TapeA: what the laws' tape does: drawn numbers are small, the tape stays one. Plain Lean. -/
set_option autoImplicit false
set_option linter.all false
set_option maxRecDepth 100000
set_option maxHeartbeats 4000000
namespace Tape
open Cv
abbrev kCells : D := .str [99, 101, 108, 108, 115]
abbrev kAt : D := .str [97, 116]
abbrev kLeft : D := .str [108, 101, 102, 116]
abbrev kSeed : D := .str [115, 101, 101, 100]
abbrev kSalt : D := .str [115, 97, 108, 116]
def tapeD (cells : List Nat) (at_ left seed salt : Nat) : D := .dic [kCells, kAt, kLeft, kSeed, kSalt] [.lst (cells.map fun (n : Nat) => D.int (n : Int)), .int at_, .int left, .int seed, .int salt]
def TapeOk (t : D) : Prop := ∃ cells at_ left seed salt, t = tapeD cells at_ left seed salt
def BTape : CSs := (.cons (.asg (.name 1) (.lc (.b1 .abs (.b1 .int (.var 3))) (.name 3) (.own 0) [3] .no)) (.cons (.asg (.name 2) (.lit (.int 7))) (.cons (.for_ (.name 3) (.own 1) (.cons (.asg (.name 2) (.bin .mod (.b1 .int (.bin .add (.bin .mul (.var 2) (.lit (.int 31))) (.var 3))) (.lit (.int 2147483647)))) .nil)) (.cons (.retO (.dct (.cons (.lit (.str [99, 101, 108, 108, 115])) (.var 1) (.cons (.lit (.str [97, 116])) (.lit (.int 0)) (.cons (.lit (.str [108, 101, 102, 116])) (.lit (.int 0)) (.cons (.lit (.str [115, 101, 101, 100])) (.var 2) (.cons (.lit (.str [115, 97, 108, 116])) (.lit (.int 0)) .nil))))))) .nil))))
def FTape : CF := ⟨1, 4, .rn, BTape⟩
def BTake : CSs := (.cons (.ife (.andt (.cmp .eq (.ix (.var 0) (.lit (.str [108, 101, 102, 116]))) (.lit (.int 0))) (.cmp .lt (.ix (.var 0) (.lit (.str [97, 116]))) (.b1 .len (.ix (.var 0) (.lit (.str [99, 101, 108, 108, 115])))))) (.cons (.setix 0 (.lit (.str [108, 101, 102, 116])) (.ix (.ix (.var 0) (.lit (.str [99, 101, 108, 108, 115]))) (.ix (.var 0) (.lit (.str [97, 116]))))) (.cons (.setix 0 (.lit (.str [97, 116])) (.bin .add (.ix (.var 0) (.lit (.str [97, 116]))) (.lit (.int 1)))) .nil)) .nil) (.cons (.ife (.cmp .gt (.ix (.var 0) (.lit (.str [108, 101, 102, 116]))) (.lit (.int 0))) (.cons (.asg (.name 2) (.bin .mod (.b1 .int (.ix (.var 0) (.lit (.str [108, 101, 102, 116])))) (.var 1))) (.cons (.setix 0 (.lit (.str [108, 101, 102, 116])) (.bin .fdiv (.ix (.var 0) (.lit (.str [108, 101, 102, 116]))) (.var 1))) (.cons (.ret (.var 2)) .nil))) .nil) (.cons (.setix 0 (.lit (.str [115, 97, 108, 116])) (.bin .add (.ix (.var 0) (.lit (.str [115, 97, 108, 116]))) (.lit (.int 1)))) (.cons (.asg (.name 3) (.bin .mod (.b1 .int (.bin .add (.bin .mul (.ix (.var 0) (.lit (.str [115, 101, 101, 100]))) (.lit (.int 48271))) (.bin .mul (.ix (.var 0) (.lit (.str [115, 97, 108, 116]))) (.lit (.int 69621))))) (.lit (.int 2147483647)))) (.cons (.asg (.name 3) (.bin .mod (.b1 .int (.bin .add (.bin .add (.bin .mul (.var 3) (.var 3)) (.bin .mul (.ix (.var 0) (.lit (.str [115, 97, 108, 116]))) (.lit (.int 40692)))) (.lit (.int 12345)))) (.lit (.int 2147483399)))) (.cons (.ret (.bin .mod (.b1 .int (.var 3)) (.var 1))) .nil))))))
def FTake : CF := ⟨2, 4, .io, BTake⟩

section
variable {cf : CallF} {W : Nat}
/-- a statement, then the rest -/
theorem exs_cons {s : CS} {r : CSs} {env e1 : Env} (h : exS cf W s env = some (.nx, e1)) : exSs cf W (.cons s r) env = exSs cf W r e1 := by
  simp only [exSs, h]
theorem exs_ret {s : CS} {r : CSs} {env e1 : Env} {d : D} (h : exS cf W s env = some (.rt d, e1)) : exSs cf W (.cons s r) env = some (.rt d, e1) := by
  simp only [exSs, h]
/-- reading the tape -/
theorem ix_at {cells : List Nat} {a l s t : Nat} {rest : Env} {k : D} {v : D} (h : ixD (tapeD cells a l s t) k = some v) : evE cf (.ix (.var 0) (.lit k)) (.io (tapeD cells a l s t) :: rest) = some (v, .io (tapeD cells a l s t) :: rest) := by
  simp only [evE, opd, rd, peek, List.getElem?_cons_zero, h]
theorem g_cells {cells : List Nat} {a l s t : Nat} : ixD (tapeD cells a l s t) kCells = some (.lst (cells.map fun (n : Nat) => D.int (n : Int))) := rfl
theorem g_at {cells : List Nat} {a l s t : Nat} : ixD (tapeD cells a l s t) kAt = some (.int a) := rfl
theorem g_left {cells : List Nat} {a l s t : Nat} : ixD (tapeD cells a l s t) kLeft = some (.int l) := rfl
theorem g_seed {cells : List Nat} {a l s t : Nat} : ixD (tapeD cells a l s t) kSeed = some (.int s) := rfl
theorem g_salt {cells : List Nat} {a l s t : Nat} : ixD (tapeD cells a l s t) kSalt = some (.int t) := rfl
theorem p_left {cells : List Nat} {a l s t l' : Nat} : setD kLeft (.int l') (tapeD cells a l s t) = some (tapeD cells a l' s t) := rfl
theorem p_at {cells : List Nat} {a l s t l' : Nat} : setD kAt (.int l') (tapeD cells a l s t) = some (tapeD cells l' l s t) := rfl
theorem p_salt {cells : List Nat} {a l s t l' : Nat} : setD kSalt (.int l') (tapeD cells a l s t) = some (tapeD cells a l s l') := rfl
theorem mul_ok {i j : Int} (h : -18446744073709551616 < j) (h2 : j < 18446744073709551616) : binI .mul i j = some (i * j) := by
  simp only [binI, mulOk, h, h2, decide_true, Bool.and_self, Bool.or_true, Bool.true_or, if_true]
theorem mod_ok {i j : Int} (h : 0 < j) : binI .mod i j = some (i % j) := by
  simp only [binI, h, decide_true, if_true]
theorem log_lt {j : Int} (h : 0 < j) (h2 : j < 18446744073709551616) : divOk j = true := by
  unfold divOk
  rw [decide_eq_true h, Bool.true_and]
  have : j.natAbs.log2 < 64 := by
    rw [Nat.log2_lt (by omega)]
    omega
  simp only [Nat.blt_eq]
  omega
theorem div_ok {i j : Int} (h : 0 < j) (h2 : j < 18446744073709551616) : binI .fdiv i j = some (i / j) := by
  simp only [binI, log_lt h h2, if_true]
theorem ife_t {c : CE} {x y : CSs} {env e1 : Env} (h : tst c env (evE cf c env) = some (true, e1)) : exS cf W (.ife c x y) env = exSs cf W x e1 := by
  simp only [exS, h]
theorem ife_f {c : CE} {x y : CSs} {env e1 : Env} (h : tst c env (evE cf c env) = some (false, e1)) : exS cf W (.ife c x y) env = exSs cf W y e1 := by
  simp only [exS, h]
theorem tst_bl {c : CE} {env e1 : Env} {b : Bool} (nv : ∀ i, c ≠ .var i) (h : evE cf c env = some (.bl b, e1)) : tst c env (evE cf c env) = some (b, e1) := by
  have e : opd c env (evE cf c env) = some (.v (.bl b), e1) := by
    rw [h]
    cases c <;> first | rfl | exact absurd rfl (nv _)
  unfold tst
  rw [e]
  rfl
abbrev c1 : CE := .andt (.cmp .eq (.ix (.var 0) (.lit kLeft)) (.lit (.int 0))) (.cmp .lt (.ix (.var 0) (.lit kAt)) (.b1 .len (.ix (.var 0) (.lit kCells))))
abbrev c2 : CE := .cmp .gt (.ix (.var 0) (.lit kLeft)) (.lit (.int 0))
variable {cells : List Nat} {a l s n : Nat} {rest : Env}
theorem c1_0 : evE cf c1 (.io (tapeD cells a 0 s n) :: rest) = some (.bl (decide ((a : Int) < ((cells.map fun (n : Nat) => D.int (n : Int)).length : Nat))), .io (tapeD cells a 0 s n) :: rest) := rfl
theorem c1_s : evE cf c1 (.io (tapeD cells a (l + 1) s n) :: rest) = some (.bl false, .io (tapeD cells a (l + 1) s n) :: rest) := rfl
theorem c2_s : evE cf c2 (.io (tapeD cells a (l + 1) s n) :: rest) = some (.bl true, .io (tapeD cells a (l + 1) s n) :: rest) := by
  show some (D.bl (decide ((0 : Int) < ((l + 1 : Nat) : Int))), _) = _
  rw [decide_eq_true (by omega)]
theorem c2_0 : evE cf c2 (.io (tapeD cells a 0 s n) :: rest) = some (.bl false, .io (tapeD cells a 0 s n) :: rest) := rfl
/-- a field of the tape set to what is reckoned -/
theorem set_f {k : D} {e : CE} {v : D} {t t' : D} {env' : Env} (he : evE cf e (.io t :: rest) = some (v, .io t :: env')) (hs : setD k v t = some t') : exS cf W (.setix 0 (.lit k) e) (.io t :: rest) = some (.nx, .io t' :: env') := by
  simp only [exS, he, isObjS, evE, chg, List.getElem?_cons_zero, hs, if_true, List.set_cons_zero]
abbrev sDraw : CSs := .cons (.asg (.name 2) (.bin .mod (.b1 .int (.ix (.var 0) (.lit kLeft))) (.var 1))) (.cons (.setix 0 (.lit kLeft) (.bin .fdiv (.ix (.var 0) (.lit kLeft)) (.var 1))) (.cons (.ret (.var 2)) .nil))
abbrev eSalt : CE := .bin .add (.ix (.var 0) (.lit kSalt)) (.lit (.int 1))
abbrev eM1 : CE := .bin .mod (.b1 .int (.bin .add (.bin .mul (.ix (.var 0) (.lit kSeed)) (.lit (.int 48271))) (.bin .mul (.ix (.var 0) (.lit kSalt)) (.lit (.int 69621))))) (.lit (.int 2147483647))
abbrev eM2 : CE := .bin .mod (.b1 .int (.bin .add (.bin .add (.bin .mul (.var 3) (.var 3)) (.bin .mul (.ix (.var 0) (.lit kSalt)) (.lit (.int 40692)))) (.lit (.int 12345)))) (.lit (.int 2147483399))
abbrev sSalt : CSs := .cons (.setix 0 (.lit kSalt) eSalt) (.cons (.asg (.name 3) eM1) (.cons (.asg (.name 3) eM2) (.cons (.ret (.bin .mod (.b1 .int (.var 3)) (.var 1))) .nil)))
theorem take_body : BTake = .cons (.ife c1 (.cons (.setix 0 (.lit kLeft) (.ix (.ix (.var 0) (.lit kCells)) (.ix (.var 0) (.lit kAt)))) (.cons (.setix 0 (.lit kAt) (.bin .add (.ix (.var 0) (.lit kAt)) (.lit (.int 1)))) .nil)) .nil) (.cons (.ife c2 sDraw .nil) sSalt) := rfl
theorem bin_of {o : Bop} {x y : CE} {env e1 e2 : Env} {i j k : Int} (nx : ∀ q, x ≠ .var q) (ny : ∀ q, y ≠ .var q) (hx : evE cf x env = some (.int i, e1)) (hy : evE cf y e1 = some (.int j, e2)) (hb : binI o i j = some k) : evE cf (.bin o x y) env = some (.int k, e2) := by
  have ox : opd x env (evE cf x env) = some (.v (.int i), e1) := by
    rw [hx]
    cases x <;> first | rfl | exact absurd rfl (nx _)
  have oy : opd y e1 (evE cf y e1) = some (.v (.int j), e2) := by
    rw [hy]
    cases y <;> first | rfl | exact absurd rfl (ny _)
  have hb2 : binD o (.int i) (.int j) = some (.int k) := by
    cases o <;> simp only [binD, hb, Option.map_some]
  simp only [evE, ox, oy, rd, hb2]
theorem bin_v {o : Bop} {x : CE} {env e1 : Env} {q : Nat} {i j k : Int} (nx : ∀ q, x ≠ .var q) (hx : evE cf x env = some (.int i, e1)) (hy : e1[q]? = some (.val (.int j))) (hb : binI o i j = some k) : evE cf (.bin o x (.var q)) env = some (.int k, e1) := by
  have ox : opd x env (evE cf x env) = some (.v (.int i), e1) := by
    rw [hx]
    cases x <;> first | rfl | exact absurd rfl (nx _)
  have hb2 : binD o (.int i) (.int j) = some (.int k) := by
    cases o <;> simp only [binD, hb, Option.map_some]
  have oy : ∀ r, opd (.var q) e1 r = some (.v (.int j), e1) := fun r => by simp only [opd, hy]
  simp only [evE, ox, oy, rd, hb2]
theorem int_of {x : CE} {env e1 : Env} {i : Int} (nx : ∀ q, x ≠ .var q) (hx : evE cf x env = some (.int i, e1)) : evE cf (.b1 .int x) env = some (.int i, e1) := by
  have ox : opd x env (evE cf x env) = some (.v (.int i), e1) := by
    rw [hx]
    cases x <;> first | rfl | exact absurd rfl (nx _)
  simp only [evE, ox, rd, b1]
theorem bin_vv {o : Bop} {env : Env} {p q : Nat} {i j k : Int} (hx : env[p]? = some (.val (.int i))) (hy : env[q]? = some (.val (.int j))) (hb : binI o i j = some k) : evE cf (.bin o (.var p) (.var q)) env = some (.int k, env) := by
  have ox : ∀ r, opd (.var p) env r = some (.v (.int i), env) := fun r => by simp only [opd, hx]
  have oy : ∀ r, opd (.var q) env r = some (.v (.int j), env) := fun r => by simp only [opd, hy]
  have hb2 : binD o (.int i) (.int j) = some (.int k) := by
    cases o <;> simp only [binD, hb, Option.map_some]
  simp only [evE, ox, oy, rd, hb2]
theorem asg_of {g : Tg} {e : CE} {v : D} {env e1 e2 : Env} (he : evE cf e env = some (v, e1)) (ha : asgT g v e1 = some e2) : exS cf W (.asg g e) env = some (.nx, e2) := by
  simp only [exS, he, ha]
theorem ret_of {e : CE} {v : D} {env e1 : Env} (he : evE cf e env = some (v, e1)) : exS cf W (.ret e) env = some (.rt v, e1) := by
  simp only [exS, he]
theorem int_v {env : Env} {q : Nat} {i : Int} (hx : env[q]? = some (.val (.int i))) : evE cf (.b1 .int (.var q)) env = some (.int i, env) := by
  have ox : ∀ r, opd (.var q) env r = some (.v (.int i), env) := fun r => by simp only [opd, hx]
  simp only [evE, ox, rd, b1]
theorem ix_of {x i : CE} {p k d : D} {env e1 e2 : Env} (nx : ∀ q, x ≠ .var q) (hx : evE cf x env = some (p, e1)) (hi : evE cf i e1 = some (k, e2)) (h : ixD p k = some d) : evE cf (.ix x i) env = some (d, e2) := by
  have ox : opd x env (evE cf x env) = some (.v p, e1) := by
    rw [hx]
    cases x <;> first | rfl | exact absurd rfl (nx _)
  simp only [evE, ox, hi, rd, h]
theorem lit_of {d : D} {env : Env} : evE cf (.lit d) env = some (d, env) := rfl
/-- out of what was left -/
theorem draw_ok {m : Nat} {x3 : Sl} (hm : 0 < m) (hm2 : m < 1000000) : exSs cf W sDraw [.io (tapeD cells a l s n), .val (.int m), .no, x3] = some (.rt (.int ((l % m : Nat) : Int)), [.io (tapeD cells a (l / m) s n), .val (.int m), .val (.int ((l % m : Nat) : Int)), x3]) := by
  have h1 : evE cf (.bin .mod (.b1 .int (.ix (.var 0) (.lit kLeft))) (.var 1)) [.io (tapeD cells a l s n), .val (.int m), .no, x3] = some (.int ((l % m : Nat) : Int), [.io (tapeD cells a l s n), .val (.int m), .no, x3]) :=
    bin_v (fun _ z => by cases z) (int_of (fun _ z => by cases z) (ix_at g_left)) rfl (by rw [mod_ok (by omega)]; rfl)
  have h2 : ∀ x2, evE cf (.bin .fdiv (.ix (.var 0) (.lit kLeft)) (.var 1)) [.io (tapeD cells a l s n), .val (.int m), x2, x3] = some (.int ((l / m : Nat) : Int), [.io (tapeD cells a l s n), .val (.int m), x2, x3]) := fun x2 =>
    bin_v (fun _ z => by cases z) (ix_at g_left) rfl (by rw [div_ok (by omega) (by omega)]; rfl)
  rw [exs_cons (e1 := [.io (tapeD cells a l s n), .val (.int m), .val (.int ((l % m : Nat) : Int)), x3]) (asg_of h1 rfl), exs_cons (set_f (h2 _) p_left)]
  exact exs_ret (ret_of (by simp only [evE, load, List.getElem?_cons_succ, List.getElem?_cons_zero]))
theorem some_i {i j : Int} (h : i = j) : (some i : Option Int) = some j := by rw [h]
theorem salt0 {x1 x2 x3 : Sl} : evE cf eSalt [.io (tapeD cells a l s n), x1, x2, x3] = some (.int ((n + 1 : Nat) : Int), [.io (tapeD cells a l s n), x1, x2, x3]) :=
  bin_of (fun _ z => by cases z) (fun _ z => by cases z) (ix_at g_salt) lit_of (some_i (by omega))
theorem mul_nat (i j : Nat) (h : (j : Int) < 18446744073709551616) : binI .mul (i : Int) (j : Int) = some ((i * j : Nat) : Int) := by
  rw [mul_ok (by omega) h, Int.natCast_mul]
theorem mod_nat (i j : Nat) (h : (0 : Int) < (j : Int)) : binI .mod (i : Int) (j : Int) = some ((i % j : Nat) : Int) := by
  rw [mod_ok h, Int.natCast_emod]
theorem add_nat (i j : Nat) : binI .add (i : Int) (j : Int) = some ((i + j : Nat) : Int) := by
  simp only [binI]
  rw [Int.natCast_add]
/-- p times a field and q times another, modulo m: some number below m -/
theorem m1_ok {x1 x2 x3 : Sl} : ∃ u : Nat, (u : Int) < 2147483647 ∧ evE cf eM1 [.io (tapeD cells a l s n), x1, x2, x3] = some (.int (u : Int), [.io (tapeD cells a l s n), x1, x2, x3]) := by
  have hp : ∀ p : Nat, (p : Int) = 48271 → evE cf (.bin .mul (.ix (.var 0) (.lit kSeed)) (.lit (.int p))) [.io (tapeD cells a l s n), x1, x2, x3] = some (.int ((s * p : Nat) : Int), [.io (tapeD cells a l s n), x1, x2, x3]) := fun p hp =>
    bin_of (fun _ z => by cases z) (fun _ z => by cases z) (ix_at g_seed) lit_of (mul_nat _ _ (by omega))
  have hq : ∀ p : Nat, (p : Int) = 69621 → evE cf (.bin .mul (.ix (.var 0) (.lit kSalt)) (.lit (.int p))) [.io (tapeD cells a l s n), x1, x2, x3] = some (.int ((n * p : Nat) : Int), [.io (tapeD cells a l s n), x1, x2, x3]) := fun p hp =>
    bin_of (fun _ z => by cases z) (fun _ z => by cases z) (ix_at g_salt) lit_of (mul_nat _ _ (by omega))
  have hall : ∀ p q m : Nat, (p : Int) = 48271 → (q : Int) = 69621 → (m : Int) = 2147483647 → evE cf (.bin .mod (.b1 .int (.bin .add (.bin .mul (.ix (.var 0) (.lit kSeed)) (.lit (.int p))) (.bin .mul (.ix (.var 0) (.lit kSalt)) (.lit (.int q))))) (.lit (.int m))) [.io (tapeD cells a l s n), x1, x2, x3] =
      some (.int (((s * p + n * q) % m : Nat) : Int), [.io (tapeD cells a l s n), x1, x2, x3]) := fun p q m h1 h2 h3 =>
    bin_of (fun _ z => by cases z) (fun _ z => by cases z) (int_of (fun _ z => by cases z) (bin_of (fun _ z => by cases z) (fun _ z => by cases z) (hp p h1) (hq q h2) (add_nat _ _))) lit_of (mod_nat _ _ (by omega))
  obtain ⟨p, h1⟩ : ∃ p : Nat, (p : Int) = 48271 := ⟨48271, rfl⟩
  obtain ⟨q, h2⟩ : ∃ p : Nat, (p : Int) = 69621 := ⟨69621, rfl⟩
  obtain ⟨m, h3⟩ : ∃ p : Nat, (p : Int) = 2147483647 := ⟨2147483647, rfl⟩
  have := hall p q m h1 h2 h3
  rw [h1, h2, h3] at this
  refine ⟨(s * p + n * q) % m, ?_, this⟩
  have h4 : (s * p + n * q) % m < m := Nat.mod_lt _ (by omega)
  omega
theorem m2_ok {x1 x2 : Sl} {u : Nat} (hu : (u : Int) < 2147483647) : ∃ v : Nat, evE cf eM2 [.io (tapeD cells a l s n), x1, x2, .val (.int (u : Int))] = some (.int (v : Int), [.io (tapeD cells a l s n), x1, x2, .val (.int (u : Int))]) := by
  have hv : evE cf (.bin .mul (.var 3) (.var 3)) [.io (tapeD cells a l s n), x1, x2, .val (.int (u : Int))] = some (.int ((u * u : Nat) : Int), [.io (tapeD cells a l s n), x1, x2, .val (.int (u : Int))]) :=
    bin_vv rfl rfl (mul_nat u u (by omega))
  have hall : ∀ p q m : Nat, (p : Int) = 40692 → (q : Int) = 12345 → (m : Int) = 2147483399 → evE cf (.bin .mod (.b1 .int (.bin .add (.bin .add (.bin .mul (.var 3) (.var 3)) (.bin .mul (.ix (.var 0) (.lit kSalt)) (.lit (.int p)))) (.lit (.int q)))) (.lit (.int m))) [.io (tapeD cells a l s n), x1, x2, .val (.int (u : Int))] =
      some (.int (((u * u + n * p + q) % m : Nat) : Int), [.io (tapeD cells a l s n), x1, x2, .val (.int (u : Int))]) := fun p q m h1 h2 h3 =>
    bin_of (fun _ z => by cases z) (fun _ z => by cases z) (int_of (fun _ z => by cases z) (bin_of (fun _ z => by cases z) (fun _ z => by cases z) (bin_of (fun _ z => by cases z) (fun _ z => by cases z) hv
      (bin_of (fun _ z => by cases z) (fun _ z => by cases z) (ix_at g_salt) lit_of (mul_nat _ _ (by omega))) (add_nat _ _)) lit_of (add_nat _ _))) lit_of (mod_nat _ _ (by omega))
  obtain ⟨p, h1⟩ : ∃ p : Nat, (p : Int) = 40692 := ⟨40692, rfl⟩
  obtain ⟨q, h2⟩ : ∃ p : Nat, (p : Int) = 12345 := ⟨12345, rfl⟩
  obtain ⟨m, h3⟩ : ∃ p : Nat, (p : Int) = 2147483399 := ⟨2147483399, rfl⟩
  have := hall p q m h1 h2 h3
  rw [h1, h2, h3] at this
  exact ⟨_, this⟩
theorem salt_ok {m : Nat} (hm : 0 < m) : ∃ r : Nat, r < m ∧ ∃ x3, exSs cf W sSalt [.io (tapeD cells a l s n), .val (.int m), .no, .no] = some (.rt (.int (r : Int)), [.io (tapeD cells a l s (n + 1)), .val (.int m), .no, x3]) := by
  obtain ⟨u, hu, h1⟩ := m1_ok (cf := cf) (cells := cells) (a := a) (l := l) (s := s) (n := n + 1) (x1 := .val (.int m)) (x2 := .no) (x3 := .no)
  obtain ⟨v, h2⟩ := m2_ok (cf := cf) (cells := cells) (a := a) (l := l) (s := s) (n := n + 1) (x1 := .val (.int m)) (x2 := .no) hu
  have h3 : evE cf (.bin .mod (.b1 .int (.var 3)) (.var 1)) [.io (tapeD cells a l s (n + 1)), .val (.int m), .no, .val (.int (v : Int))] = some (.int ((v % m : Nat) : Int), [.io (tapeD cells a l s (n + 1)), .val (.int m), .no, .val (.int (v : Int))]) :=
    bin_v (fun _ z => by cases z) (int_v rfl) rfl (mod_nat _ _ (by omega))
  refine ⟨v % m, Nat.mod_lt _ hm, .val (.int (v : Int)), ?_⟩
  have g1 : exS cf W (.asg (.name 3) eM1) [.io (tapeD cells a l s (n + 1)), .val (.int m), .no, .no] = some (.nx, [.io (tapeD cells a l s (n + 1)), .val (.int m), .no, .val (.int (u : Int))]) :=
    asg_of h1 rfl
  have g2 : exS cf W (.asg (.name 3) eM2) [.io (tapeD cells a l s (n + 1)), .val (.int m), .no, .val (.int (u : Int))] = some (.nx, [.io (tapeD cells a l s (n + 1)), .val (.int m), .no, .val (.int (v : Int))]) :=
    asg_of h2 rfl
  rw [exs_cons (set_f salt0 p_salt), exs_cons g1, exs_cons g2]
  exact exs_ret (ret_of h3)
/-- THE DRAW: below many, the tape stays one -/
theorem take_ok {t : D} (ht : TapeOk t) {m : Nat} (hm : 0 < m) (hm2 : m < 1000000) : ∃ (r : Nat) (t' : D), runF cf W FTake [t, .int m] = some (.int (r : Int), t') ∧ r < m ∧ TapeOk t' := by
  obtain ⟨cells, a, l, s, n, rfl⟩ := ht
  -- behind the first statement
  have rest : ∀ a l, ∃ (r : Nat) (t' : D) (x2 x3 : Sl), exSs cf W (.cons (.ife c2 sDraw .nil) sSalt) [.io (tapeD cells a l s n), .val (.int m), .no, .no] = some (.rt (.int (r : Int)), [.io t', .val (.int m), x2, x3]) ∧ r < m ∧ TapeOk t' := by
    intro a l
    cases l with
    | zero =>
      obtain ⟨r, hr, x3, h⟩ := salt_ok (cf := cf) (W := W) (cells := cells) (a := a) (l := 0) (s := s) (n := n) hm
      refine ⟨r, tapeD cells a 0 s (n + 1), .no, x3, ?_, hr, ⟨_, _, _, _, _, rfl⟩⟩
      rw [exs_cons (e1 := [.io (tapeD cells a 0 s n), .val (.int m), .no, .no]) (by rw [ife_f (tst_bl (fun _ z => by cases z) c2_0)]; rfl)]
      exact h
    | succ l =>
      refine ⟨(l + 1) % m, tapeD cells a ((l + 1) / m) s n, .val (.int (((l + 1) % m : Nat) : Int)), .no, ?_, Nat.mod_lt _ hm, ⟨_, _, _, _, _, rfl⟩⟩
      exact exs_ret (by rw [ife_t (tst_bl (fun _ z => by cases z) c2_s)]; exact draw_ok hm hm2)
  have fin : ∀ a l, exSs cf W BTake [.io (tapeD cells a l s n), .val (.int m), .no, .no] = exSs cf W (.cons (.ife c2 sDraw .nil) sSalt) [.io (tapeD cells a l s n), .val (.int m), .no, .no] →
      ∃ (r : Nat) (t' : D), runF cf W FTake [tapeD cells a l s n, .int m] = some (.int (r : Int), t') ∧ r < m ∧ TapeOk t' := by
    intro a l e
    obtain ⟨r, t', x2, x3, h, hr, ht⟩ := rest a l
    refine ⟨r, t', ?_, hr, ht⟩
    show (match exSs cf W BTake [.io (tapeD cells a l s n), .val (.int m), .no, .no] with
      | some (.nx, e) => if FTake.k = Fk.rn then none else match ioOut FTake.k e with
        | some o => some (D.non, o)
        | none => none
      | some (.rt d, e) => match ioOut FTake.k e with
        | some o => some (d, o)
        | none => none
      | _ => none) = _
    rw [e, h]
    rfl
  rw [take_body] at fin
  cases l with
  | succ l => exact fin a (l + 1) (by rw [exs_cons (e1 := [.io (tapeD cells a (l + 1) s n), .val (.int m), .no, .no]) (by rw [ife_f (tst_bl (fun _ z => by cases z) c1_s)]; rfl)])
  | zero =>
    by_cases ha : a < cells.length
    · obtain ⟨r, t', x2, x3, h, hr, ht⟩ := rest (a + 1) cells[a]
      have hcell : ixD (.lst (cells.map fun (n : Nat) => D.int (n : Int))) (.int (a : Int)) = some (.int ((cells[a] : Nat) : Int)) := by
        have h0 : (0 : Int) ≤ (a : Int) := by omega
        have h1 : (a : Int) < (cells.length : Int) := by omega
        simp only [ixD, atI, ixN, h0, if_true, List.length_map, h1, Option.bind_some, Int.toNat_natCast, List.getElem?_map, List.getElem?_eq_getElem ha, Option.map_some]
      have s1 : exSs cf W (.cons (.setix 0 (.lit kLeft) (.ix (.ix (.var 0) (.lit kCells)) (.ix (.var 0) (.lit kAt)))) (.cons (.setix 0 (.lit kAt) (.bin .add (.ix (.var 0) (.lit kAt)) (.lit (.int 1)))) .nil)) [.io (tapeD cells a 0 s n), .val (.int m), .no, .no] =
          some (.nx, [.io (tapeD cells (a + 1) cells[a] s n), .val (.int m), .no, .no]) := by
        rw [exs_cons (set_f (ix_of (fun _ z => by cases z) (ix_at g_cells) (ix_at g_at) hcell) p_left), exs_cons (set_f (bin_of (o := .add) (i := (a : Int)) (j := 1) (k := ((a + 1 : Nat) : Int)) (fun _ z => by cases z) (fun _ z => by cases z) (ix_at g_at) lit_of (by simp only [binI]; exact some_i (by omega))) p_at)]
        rfl
      have hd : decide ((a : Int) < ((cells.map fun (n : Nat) => D.int (n : Int)).length : Nat)) = true := by rw [decide_eq_true]; rw [List.length_map]; omega
      have e : exSs cf W BTake [.io (tapeD cells a 0 s n), .val (.int m), .no, .no] = exSs cf W (.cons (.ife c2 sDraw .nil) sSalt) [.io (tapeD cells (a + 1) cells[a] s n), .val (.int m), .no, .no] := by
        rw [take_body, exs_cons (e1 := [.io (tapeD cells (a + 1) cells[a] s n), .val (.int m), .no, .no])]
        rw [ife_t (tst_bl (fun _ z => by cases z) (by rw [c1_0, hd]))]
        exact s1
      refine ⟨r, t', ?_, hr, ht⟩
      show (match exSs cf W BTake [.io (tapeD cells a 0 s n), .val (.int m), .no, .no] with
        | some (.nx, e) => if FTake.k = Fk.rn then none else match ioOut FTake.k e with
          | some o => some (D.non, o)
          | none => none
        | some (.rt d, e) => match ioOut FTake.k e with
          | some o => some (d, o)
          | none => none
        | _ => none) = _
      rw [e, h]
      rfl
    · exact fin a 0 (by
        rw [exs_cons (e1 := [.io (tapeD cells a 0 s n), .val (.int m), .no, .no])]
        have : decide ((a : Int) < ((cells.map fun (n : Nat) => D.int (n : Int)).length : Nat)) = false := by rw [decide_eq_false]; rw [List.length_map]; omega
        rw [ife_f (tst_bl (fun _ z => by cases z) (by rw [c1_0, this]))]
        rfl)
end
end Tape
end

section
/-! TapeB: a script becomes a tape. Plain Lean. -/
set_option autoImplicit false
set_option linter.all false
set_option maxRecDepth 100000
set_option maxHeartbeats 4000000
namespace Tape
open Cv
variable {cf : CallF} {W : Nat}
abbrev eAbs : CE := .b1 .abs (.b1 .int (.var 3))
theorem abs_ok {r x1 x2 : Sl} {i : Int} : evE cf eAbs [r, x1, x2, .val (.int i)] = some (.int (i.natAbs : Nat), [r, x1, x2, .val (.int i)]) := by
  have h : evE cf (.b1 .int (.var 3)) [r, x1, x2, .val (.int i)] = some (.int i, [r, x1, x2, .val (.int i)]) := int_v rfl
  have ox : opd (.b1 .int (.var 3)) [r, x1, x2, .val (.int i)] (evE cf (.b1 .int (.var 3)) [r, x1, x2, .val (.int i)]) = some (.v (.int i), [r, x1, x2, .val (.int i)]) := by
    rw [h]
    rfl
  have hb : b1 .abs (.int i) = some (.int (i.natAbs : Nat)) := by
    simp only [b1]
    congr 2
    split <;> omega
  have gen : ∀ (c : CE) (env e1 : Env) (d v : D), opd c env (evE cf c env) = some (.v d, e1) → b1 .abs d = some v → evE cf (.b1 .abs c) env = some (v, e1) := fun c env e1 d v h1 h2 => by
    simp only [evE, h1, rd, h2]
  exact gen _ _ _ _ _ ox hb
theorem lc_ok {r x1 x2 : Sl} : ∀ (ns : List Int) (x3 : Sl), (x3 = .no ∨ ∃ d, x3 = .val d) → ∃ y, (y = .no ∨ ∃ d, y = .val d) ∧ lcGo (.name 3) [3] (evT cf .no) (evE cf eAbs) (ns.map D.int) [r, x1, x2, x3] = some ((ns.map Int.natAbs).map fun (n : Nat) => D.int (n : Int), [r, x1, x2, y])
  | [], x3, h => ⟨x3, h, rfl⟩
  | n :: ns, x3, h => by
    obtain ⟨y, hy, ih⟩ := lc_ok (r := r) (x1 := x1) (x2 := x2) ns (.val (.int n)) (.inr ⟨_, rfl⟩)
    refine ⟨y, hy, ?_⟩
    have h1 : asgT (.name 3) (.int n) (wipeS [r, x1, x2, x3] [3]) = some [r, x1, x2, .val (.int n)] := rfl
    have h2 : evT cf .no [r, x1, x2, .val (.int n)] = some (true, [r, x1, x2, .val (.int n)]) := rfl
    show lcGo (.name 3) [3] (evT cf .no) (evE cf eAbs) (.int n :: ns.map D.int) [r, x1, x2, x3] = _
    simp only [lcGo, h1, h2, abs_ok, ih]
    rfl
abbrev sSeed : CSs := .cons (.asg (.name 2) (.bin .mod (.b1 .int (.bin .add (.bin .mul (.var 2) (.lit (.int 31))) (.var 3))) (.lit (.int 2147483647)))) .nil
theorem seed_ok {r x1 : Sl} {s c : Nat} : ∃ s' : Nat, exSs cf W sSeed [r, x1, .val (.int (s : Int)), .val (.int (c : Int))] = some (.nx, [r, x1, .val (.int (s' : Int)), .val (.int (c : Int))]) := by
  have hall : ∀ p m : Nat, (p : Int) = 31 → (m : Int) = 2147483647 → evE cf (.bin .mod (.b1 .int (.bin .add (.bin .mul (.var 2) (.lit (.int p))) (.var 3))) (.lit (.int m))) [r, x1, .val (.int (s : Int)), .val (.int (c : Int))] = some (.int (((s * p + c) % m : Nat) : Int), [r, x1, .val (.int (s : Int)), .val (.int (c : Int))]) := fun p m h1 h2 => by
    have g : evE cf (.bin .mul (.var 2) (.lit (.int p))) [r, x1, .val (.int (s : Int)), .val (.int (c : Int))] = some (.int ((s * p : Nat) : Int), [r, x1, .val (.int (s : Int)), .val (.int (c : Int))]) := by
      have gen : ∀ (env : Env) (q : Nat) (i j k : Int), env[q]? = some (.val (.int i)) → binI .mul i j = some k → evE cf (.bin .mul (.var q) (.lit (.int j))) env = some (.int k, env) := fun env q i j k h3 h4 => by
        have ox : ∀ z, opd (.var q) env z = some (.v (.int i), env) := fun z => by simp only [opd, h3]
        have oy : ∀ z, opd (.lit (.int j)) env (some (.int j, z)) = some (.v (.int j), z) := fun z => rfl
        have hb : binD .mul (.int i) (.int j) = some (.int k) := by simp only [binD, h4, Option.map_some]
        simp only [evE, ox, oy, rd, hb]
      exact gen _ 2 _ _ _ rfl (mul_nat _ _ (by omega))
    exact bin_of (fun _ z => by cases z) (fun _ z => by cases z) (int_of (fun _ z => by cases z) (bin_v (fun _ z => by cases z) g rfl (add_nat _ _))) lit_of (mod_nat _ _ (by omega))
  obtain ⟨p, h1⟩ : ∃ p : Nat, (p : Int) = 31 := ⟨31, rfl⟩
  obtain ⟨m, h2⟩ : ∃ p : Nat, (p : Int) = 2147483647 := ⟨2147483647, rfl⟩
  have := hall p m h1 h2
  rw [h1, h2] at this
  refine ⟨(s * p + c) % m, ?_⟩
  rw [exs_cons (asg_of this (rfl : asgT (.name 2) (.int (((s * p + c) % m : Nat) : Int)) [r, x1, .val (.int (s : Int)), .val (.int (c : Int))] = some [r, x1, .val (.int (((s * p + c) % m : Nat) : Int)), .val (.int (c : Int))]))]
  rfl
theorem seeds_of {bd : Env → RS} {r x1 : Sl} (hb : ∀ s c : Nat, ∃ s' : Nat, bd [r, x1, .val (.int (s : Int)), .val (.int (c : Int))] = some (.nx, [r, x1, .val (.int (s' : Int)), .val (.int (c : Int))])) (cs : List Nat) :
    ∀ (s : Nat) (x3 : Sl), (x3 = .no ∨ ∃ d, x3 = .val d) → ∃ (s' : Nat) (y : Sl), forGo (.name 3) bd (cs.map fun (n : Nat) => D.int (n : Int)) [r, x1, .val (.int (s : Int)), x3] = some (.nx, [r, x1, .val (.int (s' : Int)), y]) := by
  induction cs with
  | nil => exact fun s x3 _ => ⟨s, x3, rfl⟩
  | cons c cs ih =>
    intro s x3 h
    obtain ⟨s1, h1⟩ := hb s c
    obtain ⟨s', y, ih⟩ := ih s1 (.val (.int (c : Int))) (.inr ⟨_, rfl⟩)
    refine ⟨s', y, ?_⟩
    have h2 : asgT (.name 3) (.int (c : Int)) [r, x1, .val (.int (s : Int)), x3] = some [r, x1, .val (.int (s : Int)), .val (.int (c : Int))] := by
      rcases h with rfl | ⟨d, rfl⟩ <;> rfl
    rw [List.map_cons]
    simp only [forGo, h2, h1]
    exact ih
theorem lc_of {x : CE} {tg : Tg} {it : CI} {own : List Nat} {t : CO} {env e1 e2 e3 : Env} {ds r : List D} (h1 : evI cf it env = some (ds, e1)) (h2 : free e1 own = true) (h3 : lenOk ds.length = true) (h4 : lcGo tg own (evT cf t) (evE cf x) ds e1 = some (r, e2))
    (h5 : unlend it env (back e1 e2 own) = some e3) : evE cf (.lc x tg it own t) env = some (.lst r, e3) := by
  simp only [evE, h1, h2, h3, h4, h5, Bool.and_self, if_true]
theorem for_of {tg : Tg} {it : CI} {b : CSs} {env e1 e2 e3 : Env} {ds : List D} {f : Flow} (h1 : evI cf it env = some (ds, e1)) (h2 : forGo tg (exSs cf W b) ds e1 = some (f, e2)) (h3 : unlend it env e2 = some e3) : exS cf W (.for_ tg it b) env = some (f, e3) := by
  simp only [exS, h1, h2, unlendF, h3]
theorem retO_of {e : CE} {v : D} {env e1 : Env} (he : evE cf e env = some (v, e1)) (ho : isObj v = true) : exS cf W (.retO e) env = some (.rt v, e1) := by
  simp only [exS, he, ho, if_true]
abbrev eDict : CE := .dct (.cons (.lit kCells) (.var 1) (.cons (.lit kAt) (.lit (.int 0)) (.cons (.lit kLeft) (.lit (.int 0)) (.cons (.lit kSeed) (.var 2) (.cons (.lit kSalt) (.lit (.int 0)) .nil)))))
theorem dict_ok {r y : Sl} {cs : List Nat} {s : Nat} : evE cf eDict [r, .val (.lst (cs.map fun (n : Nat) => D.int (n : Int))), .val (.int (s : Int)), y] = some (tapeD cs 0 0 s 0, [r, .val (.lst (cs.map fun (n : Nat) => D.int (n : Int))), .val (.int (s : Int)), y]) := rfl
theorem tape_ok (ns : List Int) (hl : ns.length ≤ 63) : ∃ t, runF cf W FTape [.lst (ns.map D.int)] = some (t, .non) ∧ TapeOk t := by
  obtain ⟨y, hy, h1⟩ := lc_ok (cf := cf) (r := .ro (.lst (ns.map D.int))) (x1 := .no) (x2 := .no) ns .no (.inl rfl)
  have hlen : lenOk (ns.map D.int).length = true := by
    unfold lenOk
    rw [List.length_map, Nat.ble_eq]
    have : (63 : Nat) ≤ big := by decide
    omega
  have e1 : evE cf (.lc eAbs (.name 3) (.own 0) [3] .no) [.ro (.lst (ns.map D.int)), .no, .no, .no] = some (.lst ((ns.map Int.natAbs).map fun (n : Nat) => D.int (n : Int)), [.ro (.lst (ns.map D.int)), .no, .no, .no]) :=
    lc_of rfl rfl hlen h1 rfl
  generalize ns.map Int.natAbs = cs at e1
  obtain ⟨s, y2, h2⟩ := seeds_of (bd := exSs cf W sSeed) (r := .ro (.lst (ns.map D.int))) (x1 := .val (.lst (cs.map fun (n : Nat) => D.int (n : Int)))) (fun s c => seed_ok) cs 7 .no (.inl rfl)
  have f1 : exS cf W (.for_ (.name 3) (.own 1) sSeed) [.ro (.lst (ns.map D.int)), .val (.lst (cs.map fun (n : Nat) => D.int (n : Int))), .val (.int 7), .no] = some (.nx, [.ro (.lst (ns.map D.int)), .val (.lst (cs.map fun (n : Nat) => D.int (n : Int))), .val (.int (s : Int)), y2]) :=
    for_of rfl h2 rfl
  refine ⟨tapeD cs 0 0 s 0, ?_, ⟨_, _, _, _, _, rfl⟩⟩
  have hb : exSs cf W BTape [.ro (.lst (ns.map D.int)), .no, .no, .no] = some (.rt (tapeD cs 0 0 s 0), [.ro (.lst (ns.map D.int)), .val (.lst (cs.map fun (n : Nat) => D.int (n : Int))), .val (.int (s : Int)), y2]) := by
    refine (exs_cons (asg_of e1 rfl)).trans ?_
    refine (exs_cons (asg_of lit_of rfl)).trans ?_
    refine (exs_cons f1).trans ?_
    exact exs_ret (retO_of dict_ok rfl)
  show (match exSs cf W BTape [.ro (.lst (ns.map D.int)), .no, .no, .no] with
    | some (.nx, e) => if FTape.k = Fk.rn then none else match ioOut FTape.k e with
      | some o => some (D.non, o)
      | none => none
    | some (.rt d, e) => match ioOut FTape.k e with
      | some o => some (d, o)
      | none => none
    | _ => none) = _
  rw [hb]
  rfl
end Tape
end

section
/-! TapeC: a mixed row is a permutation. Plain Lean. -/
set_option autoImplicit false
set_option linter.all false
set_option maxRecDepth 100000
set_option maxHeartbeats 4000000
namespace Tape
open Cv
variable {cf : CallF} {W : Nat}
def natsD (ns : List Nat) : List D := ns.map fun (n : Nat) => D.int (n : Int)
/-- the def j draws -/
def Draws (cf : CallF) (j : Nat) : Prop := ∀ (t : D) (m : Nat), TapeOk t → 0 < m → m < 1000000 → ∃ (r : Nat) (t' : D), cf j [t, .int m] = some (.int (r : Int), t') ∧ r < m ∧ TapeOk t'
abbrev eMix (j : Nat) : CE := .app 3 (.popAt 2 (.callT j 0 (.cons (.b1 .len (.var 2)) .nil)))
def BMixed (j : Nat) : CSs := (.cons (.asgM [(2, true), (3, true)] (.cons (.lstRng (.var 1)) (.cons (.lst .nil) .nil))) (.cons (.for_ (.name 4) (.rng1 (.var 1)) (.cons (.ex (eMix j)) .nil)) (.cons (.ret (.b1 .tuple (.var 3))) .nil)))
def FMixed (j : Nat) : CF := ⟨2, 5, .io, BMixed j⟩
theorem ixN_nat {n r : Nat} (h : r < n) : ixN n (r : Int) = some r := by
  have h0 : (0 : Int) ≤ (r : Int) := by omega
  have h1 : (r : Int) < (n : Int) := by omega
  simp only [ixN, h0, h1, if_true, Int.toNat_natCast]
theorem natsD_erase : ∀ (l : List Nat) (r : Nat), (natsD l).eraseIdx r = natsD (l.eraseIdx r)
  | [], _ => rfl
  | _ :: _, 0 => rfl
  | x :: l, r + 1 => by
    show D.int (x : Int) :: (natsD l).eraseIdx r = D.int (x : Int) :: natsD (l.eraseIdx r)
    rw [natsD_erase l r]
theorem natsD_length (l : List Nat) : (natsD l).length = l.length := List.length_map ..
theorem callT_of {j : Nat} {es : CEs} {env e1 : Env} {ds : List D} {d r o : D} (a1 : isObjS env 0 = true) (a2 : evL cf es env = some (ds, e1)) (a3 : e1[(0 : Nat)]? = some (.io d)) (a4 : cf j (d :: ds) = some (r, o)) : evE cf (.callT j 0 es) env = some (r, e1.set 0 (.io o)) := by
  simp only [evE, a1, a2, a3, a4, if_true]
theorem evL_one {c : CE} {env e1 : Env} {d : D} (h : evE cf c env = some (d, e1)) : evL cf (.cons c .nil) env = some ([d], e1) := by simp only [evL, h]
theorem len_own {env : Env} {q : Nat} {xs : List D} (h : env[q]? = some (.own (.lst xs))) : evE cf (.b1 .len (.var q)) env = some (.int (xs.length : Nat), env) := by
  have ox : ∀ z, opd (.var q) env z = some (.s q, env) := fun z => by simp only [opd, h]
  simp only [evE, ox, rd, peek, h, b1]
theorem rng_nat {k : Nat} (h : k < 1000000) : rngOk (k : Int) = true := by
  have h1 : -lim62 ≤ (k : Int) := by
    have : (0 : Int) ≤ (k : Int) := by omega
    have h0 : -lim62 ≤ (0 : Int) := by decide
    exact Int.le_trans h0 this
  have h2 : (k : Int) < lim62 := by
    have h3 : (k : Int) < 1000000 := by omega
    have h4 : (1000000 : Int) ≤ lim62 := by decide
    exact Int.lt_of_lt_of_le h3 h4
  unfold rngOk
  rw [decide_eq_true h1, decide_eq_true h2]
  rfl
theorem popAt_of {q : Nat} {c : CE} {env e1 : Env} {k : Int} {i : Nat} {xs : List D} {d : D} (a1 : isOwnL env q = true) (a2 : evE cf c env = some (.int k, e1)) (a3 : e1[q]? = some (.own (.lst xs))) (hr : rngOk k = true) (a4 : ixN xs.length k = some i) (a5 : xs[i]? = some d) :
    evE cf (.popAt q c) env = some (d, e1.set q (.own (.lst (xs.eraseIdx i)))) := by
  have e : (if rngOk k = true then ixN xs.length k else none) = some i := by rw [if_pos hr, a4]
  simp only [evE, a1, a2, a3, e, a5, if_true]
theorem app_of {q : Nat} {c : CE} {env e1 : Env} {xs : List D} {d : D} (a1 : isOwnL env q = true) (a2 : evE cf c env = some (d, e1)) (a3 : e1[q]? = some (.own (.lst xs))) (a4 : Nat.blt xs.length big = true) : evE cf (.app q c) env = some (.non, e1.set q (.own (.lst (xs ++ [d])))) := by
  simp only [evE, a1, a2, a3, a4, if_true]
theorem blt_big {n : Nat} (h : n < 1000000) : Nat.blt n big = true := by
  rw [Nat.blt_eq]
  unfold big
  omega
theorem mix_step {j : Nat} (hd : Draws cf j) {t : D} (ht : TapeOk t) {x1 x4 : Sl} {left names : List Nat} (hl : 0 < left.length) (hl2 : left.length < 1000000) (hn : names.length < 1000000) :
    ∃ (t' : D) (r : Nat) (hr : r < left.length), TapeOk t' ∧ evE cf (eMix j) [.io t, x1, .own (.lst (natsD left)), .own (.lst (natsD names)), x4] = some (.non, [.io t', x1, .own (.lst (natsD (left.eraseIdx r))), .own (.lst (natsD (names ++ [left[r]]))), x4]) := by
  obtain ⟨r, t', h1, h2, h3⟩ := hd t left.length ht hl hl2
  refine ⟨t', r, h2, h3, ?_⟩
  have hget : (natsD left)[r]? = some (.int ((left[r] : Nat) : Int)) := by
    unfold natsD
    rw [List.getElem?_map, List.getElem?_eq_getElem h2]
    rfl
  have e2 : natsD names ++ [.int ((left[r] : Nat) : Int)] = natsD (names ++ [left[r]]) := by
    unfold natsD
    rw [List.map_append]
    rfl
  have gl := len_own (cf := cf) (q := 2) (xs := natsD left) (env := [.io t, x1, .own (.lst (natsD left)), .own (.lst (natsD names)), x4]) rfl
  rw [natsD_length] at gl
  have g1 := callT_of (j := j) (d := t) rfl (evL_one gl) rfl h1
  have g2 := popAt_of (q := 2) (xs := natsD left) rfl g1 rfl (rng_nat (by omega)) (by rw [natsD_length]; exact ixN_nat h2) hget
  have g3 := app_of (q := 3) (xs := natsD names) rfl g2 rfl (blt_big (by rw [natsD_length]; exact hn))
  rw [natsD_erase, e2] at g3
  exact g3
theorem ex_of {e : CE} {v : D} {env e1 : Env} (he : evE cf e env = some (v, e1)) : exSs cf W (.cons (.ex e) .nil) env = some (.nx, e1) := by
  have h : exS cf W (.ex e) env = some (.nx, e1) := by simp only [exS, he]
  rw [exs_cons h]
  simp only [exSs]
theorem erase_perm : ∀ (l : List Nat) (r : Nat) (h : r < l.length), (l[r] :: l.eraseIdx r).Perm l
  | _ :: _, 0, _ => List.Perm.refl _
  | x :: l, r + 1, h => (List.Perm.swap x _ _).trans (List.Perm.cons x (erase_perm l r (Nat.lt_of_succ_lt_succ h)))
theorem perm_erase {left : List Nat} {r : Nat} (h : r < left.length) (names : List Nat) : ((names ++ [left[r]]) ++ left.eraseIdx r).Perm (names ++ left) := by
  rw [List.append_assoc]
  refine List.Perm.append_left _ ?_
  exact erase_perm left r h
theorem mix_go {j : Nat} (hd : Draws cf j) {x1 : Sl} : ∀ (ds : List D) (t : D) (left names : List Nat) (x4 : Sl), TapeOk t → left.length = ds.length → left.length + names.length < 1000000 → (x4 = .no ∨ ∃ d, x4 = .val d) →
    ∃ (t' : D) (ns : List Nat) (y : Sl), TapeOk t' ∧ ns.Perm (names ++ left) ∧ forGo (.name 4) (exSs cf W (.cons (.ex (eMix j)) .nil)) ds [.io t, x1, .own (.lst (natsD left)), .own (.lst (natsD names)), x4] = some (.nx, [.io t', x1, .own (.lst (natsD [])), .own (.lst (natsD ns)), y]) := by
  intro ds
  induction ds with
  | nil =>
    intro t left names x4 ht hl _ _
    have : left = [] := List.eq_nil_of_length_eq_zero hl
    subst this
    exact ⟨t, names, x4, ht, by rw [List.append_nil], rfl⟩
  | cons d ds ih =>
    intro t left names x4 ht hl hs h4
    rw [List.length_cons] at hl
    obtain ⟨t1, r, hr, ht1, h1⟩ := mix_step (cf := cf) hd ht (x1 := x1) (x4 := .val d) (left := left) (names := names) (by omega) (by omega) (by omega)
    have le : (left.eraseIdx r).length = ds.length := by rw [List.length_eraseIdx_of_lt hr]; omega
    obtain ⟨t', ns, y, ht', hp, hg⟩ := ih t1 (left.eraseIdx r) (names ++ [left[r]]) (.val d) ht1 le (by rw [List.length_append, le]; simp only [List.length_cons, List.length_nil]; omega) (.inr ⟨_, rfl⟩)
    refine ⟨t', ns, y, ht', hp.trans (perm_erase hr names), ?_⟩
    have h2 : asgT (.name 4) d [.io t, x1, .own (.lst (natsD left)), .own (.lst (natsD names)), x4] = some [.io t, x1, .own (.lst (natsD left)), .own (.lst (natsD names)), .val d] := by
      rcases h4 with rfl | ⟨d', rfl⟩ <;> rfl
    have h3 := ex_of (W := W) h1
    simp only [forGo, h2, h3]
    exact hg
theorem rngL_nats (n : Nat) : rngL 0 ((n : Nat) : Int).toNat = natsD (List.range n) := by
  unfold rngL natsD
  rw [Int.toNat_natCast]
  exact List.map_congr_left fun k _ => by rw [Int.zero_add]
theorem lstRng_of {c : CE} {env e1 : Env} {n : Nat} (h : evE cf c env = some (.int (n : Int), e1)) (hn : decide ((n : Int) ≤ 16777216) = true) : evE cf (.lstRng c) env = some (.lst (natsD (List.range n)), e1) := by
  have h2 : decide ((-16777216 : Int) ≤ (n : Int)) = true := by
    rw [decide_eq_true]
    exact Int.le_trans (by decide) (Int.natCast_nonneg n)
  simp only [evE, h, hn, h2, Bool.and_self, if_true, rngL_nats]
theorem rng1_of {c : CE} {env e1 : Env} {n : Nat} (h : evE cf c env = some (.int (n : Int), e1)) (hn : rngOk (n : Int) = true) : evI cf (.rng1 c) env = some (natsD (List.range n), e1) := by
  simp only [evI, h, hn, if_true, rngL_nats]
theorem asgM_of {ts : List (Nat × Bool)} {es : CEs} {env e1 e2 : Env} {ds : List D} (h1 : evL cf es env = some (ds, e1)) (h2 : storeM ts ds e1 = some e2) : exS cf W (.asgM ts es) env = some (.nx, e2) := by
  simp only [exS, h1, h2]
theorem evL_two {c c' : CE} {env e1 e2 : Env} {d d' : D} (h : evE cf c env = some (d, e1)) (h' : evE cf c' e1 = some (d', e2)) : evL cf (.cons c (.cons c' .nil)) env = some ([d, d'], e2) := by simp only [evL, h, h']
theorem tup_own {env : Env} {q : Nat} {xs : List D} (h : env[q]? = some (.own (.lst xs))) : evE cf (.b1 .tuple (.var q)) env = some (.tup xs, env) := by
  have ox : ∀ z, opd (.var q) env z = some (.s q, env) := fun z => by simp only [opd, h]
  simp only [evE, ox, rd, peek, h, b1]
theorem mixed_ok {j : Nat} (hd : Draws cf j) {t : D} (ht : TapeOk t) {n : Nat} (hn : n < 1000) : ∃ (t' : D) (p : List Nat), TapeOk t' ∧ p.Perm (List.range n) ∧ runF cf W (FMixed j) [t, .int (n : Int)] = some (.tup (natsD p), t') := by
  obtain ⟨t', p, y, ht', hp, hg⟩ := mix_go (cf := cf) (W := W) hd (x1 := .val (.int (n : Int))) (natsD (List.range n)) t (List.range n) [] .no ht (by rw [natsD_length]) (by rw [List.length_range]; simp only [List.length_nil]; omega) (.inl rfl)
  refine ⟨t', p, ht', by simpa using hp, ?_⟩
  have v1 : ∀ x2 x3 x4 : Sl, evE cf (.var 1) [.io t, .val (.int (n : Int)), x2, x3, x4] = some (.int (n : Int), [.io t, .val (.int (n : Int)), x2, x3, x4]) := fun _ _ _ => rfl
  have s1 := asgM_of (cf := cf) (W := W) (ts := [(2, true), (3, true)]) (evL_two (lstRng_of (v1 .no .no .no) (by rw [decide_eq_true]; omega)) (rfl : evE cf (.lst .nil) _ = some (.lst (natsD []), _))) rfl
  have s2 := for_of (cf := cf) (W := W) (it := .rng1 (.var 1)) (rng1_of (v1 (.own (.lst (natsD (List.range n)))) (.own (.lst (natsD []))) .no) (rng_nat (by omega))) hg rfl
  have s3 := ret_of (cf := cf) (W := W) (tup_own (cf := cf) (q := 3) (xs := natsD p) (env := [.io t', .val (.int (n : Int)), .own (.lst (natsD [])), .own (.lst (natsD p)), y]) rfl)
  have hb : exSs cf W (BMixed j) [.io t, .val (.int (n : Int)), .no, .no, .no] = some (.rt (.tup (natsD p)), [.io t', .val (.int (n : Int)), .own (.lst (natsD [])), .own (.lst (natsD p)), y]) := by
    refine (exs_cons s1).trans ?_
    refine (exs_cons s2).trans ?_
    exact exs_ret s3
  show (match exSs cf W (BMixed j) [.io t, .val (.int (n : Int)), .no, .no, .no] with
    | some (.nx, e) => if (FMixed j).k = Fk.rn then none else match ioOut (FMixed j).k e with
      | some o => some (D.non, o)
      | none => none
    | some (.rt d, e) => match ioOut (FMixed j).k e with
      | some o => some (d, o)
      | none => none
    | _ => none) = _
  rw [hb]
  rfl
end Tape
end

section
/-! PlainA: loops that look for something and return. Plain Lean. -/
set_option autoImplicit false
set_option linter.all false
namespace Tape
open Cv
/-- a for whose body returns rv at an item of kind P, and else leaves the frame as E says -/
theorem forGo_find {t : Tg} {bd : Env → RS} {E : Env → Prop} {P : D → Bool} {rv : D} : ∀ (ds : List D), (∀ d ∈ ds, ∀ env, E env → ∃ e1, asgT t d env = some e1 ∧ ((P d = true ∧ ∃ e2, bd e1 = some (.rt rv, e2)) ∨ (P d = false ∧ ∃ e2, bd e1 = some (.nx, e2) ∧ E e2))) →
    ∀ env, E env → (ds.any P = true ∧ ∃ e2, forGo t bd ds env = some (.rt rv, e2)) ∨ (ds.any P = false ∧ ∃ e2, forGo t bd ds env = some (.nx, e2) ∧ E e2)
  | [], _, env, h => .inr ⟨rfl, env, rfl, h⟩
  | d :: ds, hs, env, h => by
    obtain ⟨e1, h1, h2⟩ := hs d List.mem_cons_self env h
    rcases h2 with ⟨hp, e2, h3⟩ | ⟨hp, e2, h3, he⟩
    · refine .inl ⟨by rw [List.any_cons, hp]; rfl, e2, ?_⟩
      simp only [forGo, h1, h3]
    · rcases forGo_find ds (fun d hd => hs d (List.mem_cons_of_mem _ hd)) e2 he with ⟨ha, e3, h4⟩ | ⟨ha, e3, h4, h5⟩
      · exact .inl ⟨by rw [List.any_cons, ha, Bool.or_true], e3, by simp only [forGo, h1, h3]; exact h4⟩
      · exact .inr ⟨by rw [List.any_cons, ha, hp]; rfl, e3, by simp only [forGo, h1, h3]; exact h4, h5⟩
/-- a comprehension: the items of kind P, made by f -/
theorem lcGo_map {tg : Tg} {own : List Nat} {t : Env → Option (Bool × Env)} {e : Env → R} {E : Env → Prop} {P : D → Bool} {f : D → D} : ∀ (ds : List D), (∀ d ∈ ds, ∀ env, E env → ∃ e1 e2, asgT tg d (wipeS env own) = some e1 ∧ t e1 = some (P d, e2) ∧ (P d = true → ∃ e3, e e2 = some (f d, e3) ∧ E e3) ∧ (P d = false → E e2)) →
    ∀ env, E env → ∃ e2, lcGo tg own t e ds env = some ((ds.filter P).map f, e2) ∧ E e2
  | [], _, env, h => ⟨env, rfl, h⟩
  | d :: ds, hs, env, h => by
    obtain ⟨e1, e2, h1, h2, h3, h4⟩ := hs d List.mem_cons_self env h
    cases hp : P d with
    | true =>
      obtain ⟨e3, h5, h6⟩ := h3 hp
      obtain ⟨e4, h7, h8⟩ := lcGo_map ds (fun d hd => hs d (List.mem_cons_of_mem _ hd)) e3 h6
      refine ⟨e4, ?_, h8⟩
      rw [hp] at h2
      rw [List.filter_cons_of_pos hp, List.map_cons]
      simp only [lcGo, h1, h2, h5, h7]
    | false =>
      obtain ⟨e4, h7, h8⟩ := lcGo_map ds (fun d hd => hs d (List.mem_cons_of_mem _ hd)) e2 (h4 hp)
      refine ⟨e4, ?_, h8⟩
      rw [hp] at h2
      rw [List.filter_cons_of_neg (by rw [hp]; exact Bool.false_ne_true)]
      simp only [lcGo, h1, h2, h7]
end Tape
end

section
/-! WalkA: steps of the interpreter, for walks through a law's defs. Plain Lean. -/
set_option autoImplicit false
set_option linter.all false
set_option maxRecDepth 100000
set_option maxHeartbeats 4000000
namespace Tape
open Cv
variable {cf : CallF} {W : Nat}
/-- a name that may be written -/
def St (x : Sl) : Prop := x = .no ∨ ∃ d, x = .val d
theorem St.no : St .no := .inl rfl
theorem St.val {d : D} : St (.val d) := .inr ⟨d, rfl⟩
/-- an operand's value -/
def O (cf : CallF) (a : CE) (env : Env) (d : D) (e1 : Env) : Prop := opd a env (evE cf a env) = some (.v d, e1)
def nvar : CE → Bool
  | .var _ => false
  | _ => true
theorem O_e {a : CE} {env e1 : Env} {d : D} (h : evE cf a env = some (d, e1)) (nv : nvar a = true) : O cf a env d e1 := by
  unfold O
  rw [h]
  cases a <;> first | rfl | exact absurd nv Bool.false_ne_true
theorem O_v {i : Nat} {env : Env} {d : D} (h : env[i]? = some (.val d)) : O cf (.var i) env d env := by
  unfold O
  simp only [opd, h]
theorem ev_v {i : Nat} {env : Env} {d : D} (h : env[i]? = some (.val d)) : evE cf (.var i) env = some (d, env) := by
  simp only [evE, load, h]
theorem O_lit {env : Env} {d : D} : O cf (.lit d) env d env := rfl
theorem bin_O {o : Bop} {x y : CE} {env e1 e2 : Env} {a b d : D} (hx : O cf x env a e1) (hy : O cf y e1 b e2) (h : binD o a b = some d) : evE cf (.bin o x y) env = some (d, e2) := by
  unfold O at hx hy
  simp only [evE, hx, hy, rd, h]
theorem cmp_O {o : Cop} {x y : CE} {env e1 e2 : Env} {a b : D} {k : Bool} (hx : O cf x env a e1) (hy : O cf y e1 b e2) (h : cmpD o a b = some k) : evE cf (.cmp o x y) env = some (.bl k, e2) := by
  unfold O at hx hy
  simp only [evE, hx, hy, rd, h]
theorem b1_O {f : B1} {a : CE} {env e1 : Env} {p d : D} (h : O cf a env p e1) (hb : b1 f p = some d) : evE cf (.b1 f a) env = some (d, e1) := by
  unfold O at h
  simp only [evE, h, rd, hb]
theorem ix_O {x i : CE} {p k d : D} {env e1 e2 : Env} (hx : O cf x env p e1) (hi : evE cf i e1 = some (k, e2)) (h : ixD p k = some d) : evE cf (.ix x i) env = some (d, e2) := by
  unfold O at hx
  simp only [evE, hx, hi, rd, h]
theorem rev_O {x : CE} {p d : D} {env e1 : Env} (hx : O cf x env p e1) (h : revD p = some d) : evE cf (.rev x) env = some (d, e1) := by
  unfold O at hx
  simp only [evE, hx, rd, h]
theorem index_O {x a : CE} {p k : D} {xs : List D} {j : Nat} {env e1 e2 : Env} (hx : O cf x env p e1) (ha : evE cf a e1 = some (k, e2)) (hs : seqOf p = some xs) (hf : (D.fit k 60 && D.fitL xs 60 && lenOk xs.length) = true) (hi : findIx k xs = some j) :
    evE cf (.index x a) env = some (.int j, e2) := by
  unfold O at hx
  simp only [evE, hx, rd, ha, hs, hf, hi, if_true, BEq.rfl]
/-- a slice with no begin -/
theorem slTo_O {x hi : CE} {p d : D} {h : Int} {env e1 e2 : Env} (hx : O cf x env p e1) (hh : evE cf hi e1 = some (.int h, e2)) (hs : slD p none (some h) = some d) : evE cf (.sl x .no (.e hi)) env = some (d, e2) := by
  unfold O at hx
  simp only [evE, hx, rd, evO, hh, hs]
theorem call_of {f : Nat} {es : CEs} {env e1 : Env} {ds : List D} {r o : D} (h : evL cf es env = some (ds, e1)) (hc : cf f ds = some (r, o)) : evE cf (.call f es) env = some (r, e1) := by
  simp only [evE, h, hc]
theorem evL_nil {env : Env} : evL cf .nil env = some ([], env) := by simp only [evL]
theorem evL_cons {a : CE} {es : CEs} {env e1 e2 : Env} {d : D} {ds : List D} (h : evE cf a env = some (d, e1)) (hs : evL cf es e1 = some (ds, e2)) : evL cf (.cons a es) env = some (d :: ds, e2) := by
  simp only [evL, h, hs]
theorem tupE_of {es : CEs} {env e1 : Env} {ds : List D} (h : evL cf es env = some (ds, e1)) (hl : lenOk ds.length = true) : evE cf (.tup es) env = some (.tup ds, e1) := by
  simp only [evE, h, hl, if_true]
theorem lstE_of {es : CEs} {env e1 : Env} {ds : List D} (h : evL cf es env = some (ds, e1)) (hl : lenOk ds.length = true) : evE cf (.lst es) env = some (.lst ds, e1) := by
  simp only [evE, h, hl, if_true]
/-- a test -/
def T (cf : CallF) (c : CE) (env : Env) (b : Bool) (e1 : Env) : Prop := tst c env (evE cf c env) = some (b, e1)
theorem T_O {c : CE} {env e1 : Env} {d : D} {b : Bool} (h : O cf c env d e1) (ht : truth d = some b) : T cf c env b e1 := by
  unfold O at h
  unfold T tst
  simp only [h, rd, ht]
theorem T_b {c : CE} {env e1 : Env} {b : Bool} (h : evE cf c env = some (.bl b, e1)) (nv : nvar c = true) : T cf c env b e1 := T_O (O_e h nv) rfl
theorem ite_t {c a b : CE} {env e1 : Env} (h : T cf c env true e1) : evE cf (.ite c a b) env = evE cf a e1 := by
  unfold T at h
  simp only [evE, h]
theorem ite_f {c a b : CE} {env e1 : Env} (h : T cf c env false e1) : evE cf (.ite c a b) env = evE cf b e1 := by
  unfold T at h
  simp only [evE, h]
theorem nott_of {c : CE} {env e1 : Env} {b : Bool} (h : T cf c env b e1) : evE cf (.nott c) env = some (.bl (!b), e1) := by
  unfold T at h
  simp only [evE, h]
theorem ort_t {a b : CE} {env e1 : Env} (h : evE cf a env = some (.bl true, e1)) : evE cf (.ort a b) env = some (.bl true, e1) := by
  simp only [evE, h, truth]
theorem ort_f {a b : CE} {env e1 : Env} (h : evE cf a env = some (.bl false, e1)) : evE cf (.ort a b) env = evE cf b e1 := by
  simp only [evE, h, truth]
theorem andt_t {a b : CE} {env e1 : Env} (h : evE cf a env = some (.bl true, e1)) : evE cf (.andt a b) env = evE cf b e1 := by
  simp only [evE, h, truth]
theorem andt_f {a b : CE} {env e1 : Env} (h : evE cf a env = some (.bl false, e1)) : evE cf (.andt a b) env = some (.bl false, e1) := by
  simp only [evE, h, truth]
theorem ort_p {a b : CE} {env : Env} {x y : Bool} (h : evE cf a env = some (.bl x, env)) (h2 : evE cf b env = some (.bl y, env)) : evE cf (.ort a b) env = some (.bl (x || y), env) := by
  cases x
  · rw [ort_f h, h2]; rfl
  · rw [ort_t h]; rfl
theorem ife_T {c : CE} {a b : CSs} {env e1 : Env} (h : T cf c env true e1) : exS cf W (.ife c a b) env = exSs cf W a e1 := ife_t h
theorem ife_F {c : CE} {a b : CSs} {env e1 : Env} (h : T cf c env false e1) : exS cf W (.ife c a b) env = exSs cf W b e1 := ife_f h
/-- an if that is not taken and has no else -/
theorem ife_skip {c : CE} {a : CSs} {env e1 : Env} (h : T cf c env false e1) : exS cf W (.ife c a .nil) env = some (.nx, e1) := by
  rw [ife_F h]
  simp only [exSs]
theorem exs_nil {env : Env} : exSs cf W .nil env = some (.nx, env) := by simp only [exSs]
theorem chain_t {o p : Cop} {a b c : CE} {env e1 e2 e3 : Env} {x y z : D} {k : Bool} (ha : evE cf a env = some (x, e1)) (hb : evE cf b e1 = some (y, e2)) (h1 : cmpD o x y = some true) (hc : evE cf c e2 = some (z, e3)) (h2 : cmpD p y z = some k) :
    evE cf (.chain o p a b c) env = some (.bl k, e3) := by
  simp only [evE, ha, hb, h1, hc, h2]
theorem chain_f {o p : Cop} {a b c : CE} {env e1 e2 : Env} {x y : D} (ha : evE cf a env = some (x, e1)) (hb : evE cf b e1 = some (y, e2)) (h1 : cmpD o x y = some false) :
    evE cf (.chain o p a b c) env = some (.bl false, e2) := by
  simp only [evE, ha, hb, h1]
theorem runF_v {np n : Nat} {body : CSs} {args : List D} {d : D} {e : Env} (hl : (args.length == np) = true) (h : exSs cf W body (args.map .val ++ List.replicate (n - np) .no) = some (.rt d, e)) : runF cf W ⟨np, n, .v, body⟩ args = some (d, .non) := by
  have h2 : exSs cf W body (startE .v args ++ List.replicate (n - np) .no) = some (.rt d, e) := by
    have : startE .v args = args.map .val := by
      cases args <;> rfl
    rw [this, h]
  unfold runF
  simp only [hl, if_true, h2, ioOut]
theorem runF_io {np n : Nat} {body : CSs} {a : D} {args : List D} {d o : D} {e : Env} (hl : ((a :: args).length == np) = true) (h : exSs cf W body (.io a :: args.map .val ++ List.replicate (n - np) .no) = some (.rt d, e)) (ho : e[(0 : Nat)]? = some (.io o)) :
    runF cf W ⟨np, n, .io, body⟩ (a :: args) = some (d, o) := by
  have h2 : exSs cf W body (startE .io (a :: args) ++ List.replicate (n - np) .no) = some (.rt d, e) := h
  unfold runF
  simp only [hl, if_true, h2, ioOut, ho]

/-! ### loops -/
theorem lcGo_a {α : Type} {tg : Tg} {own : List Nat} {t : Env → Option (Bool × Env)} {e : Env → R} {E : Env → Prop} {g : α → D} {P : α → Bool} {f : α → D} : ∀ (xs : List α),
    (∀ k ∈ xs, ∀ env, E env → ∃ e1 e2, asgT tg (g k) (wipeS env own) = some e1 ∧ t e1 = some (P k, e2) ∧ (P k = true → ∃ e3, e e2 = some (f k, e3) ∧ E e3) ∧ (P k = false → E e2)) →
    ∀ env, E env → ∃ e2, lcGo tg own t e (xs.map g) env = some ((xs.filter P).map f, e2) ∧ E e2
  | [], _, env, h => ⟨env, rfl, h⟩
  | d :: ds, hs, env, h => by
    obtain ⟨e1, e2, h1, h2, h3, h4⟩ := hs d List.mem_cons_self env h
    cases hp : P d with
    | true =>
      obtain ⟨e3, h5, h6⟩ := h3 hp
      obtain ⟨e4, h7, h8⟩ := lcGo_a ds (fun d hd => hs d (List.mem_cons_of_mem _ hd)) e3 h6
      refine ⟨e4, ?_, h8⟩
      rw [hp] at h2
      rw [List.filter_cons_of_pos hp, List.map_cons, List.map_cons]
      simp only [lcGo, h1, h2, h5, h7]
    | false =>
      obtain ⟨e4, h7, h8⟩ := lcGo_a ds (fun d hd => hs d (List.mem_cons_of_mem _ hd)) e2 (h4 hp)
      refine ⟨e4, ?_, h8⟩
      rw [hp] at h2
      rw [List.filter_cons_of_neg (by rw [hp]; exact Bool.false_ne_true), List.map_cons]
      simp only [lcGo, h1, h2, h7]
theorem set_getD {i : Nat} {env : Env} {s : Sl} (h : i < env.length) : (env.set i s).set i (env.getD i .no) = env := by
  rw [List.set_set]
  have : env.getD i .no = env[i] := by
    rw [List.getD_eq_getElem?_getD, List.getElem?_eq_getElem h]
    rfl
  rw [this, List.set_getElem_self]
theorem asg_wipe {i : Nat} {env : Env} {s : Sl} {d : D} (h : i < env.length) : asgT (.name i) d (wipeS (env.set i s) [i]) = some (env.set i (.val d)) := by
  show store i (.val d) ((env.set i s).set i .no) = _
  rw [List.set_set]
  have : (env.set i .no)[i]? = some .no := by
    rw [List.getElem?_set_self h]
  simp only [store, this, List.set_set]
/-- a comprehension with one name, whose parts change nothing -/
theorem lc_one {α : Type} {x : CE} {i : Nat} {it : CI} {t : CO} {env : Env} {g : α → D} {P : α → Bool} {f : α → D} {xs : List α} (hit : evI cf it env = some (xs.map g, env)) (hi : i < env.length) (hfree : free env [i] = true) (hlen : lenOk xs.length = true)
    (hun : unlend it env env = some env)
    (hs : ∀ k ∈ xs, evT cf t (env.set i (.val (g k))) = some (P k, env.set i (.val (g k))) ∧ (P k = true → evE cf x (env.set i (.val (g k))) = some (f k, env.set i (.val (g k))))) :
    evE cf (.lc x (.name i) it [i] t) env = some (.lst ((xs.filter P).map f), env) := by
  obtain ⟨e2, h1, s, rfl⟩ := lcGo_a (tg := .name i) (own := [i]) (t := evT cf t) (e := evE cf x) (E := fun v => ∃ s, v = env.set i s) (g := g) (P := P) (f := f) xs (by
    intro k hk v hv
    obtain ⟨s, rfl⟩ := hv
    obtain ⟨h1, h2⟩ := hs k hk
    exact ⟨_, _, asg_wipe hi, h1, fun hp => ⟨_, h2 hp, _, rfl⟩, fun _ => ⟨_, rfl⟩⟩) env ⟨env[i], by rw [List.set_getElem_self]⟩
  refine lc_of hit hfree (by rw [List.length_map]; exact hlen) h1 ?_
  have : back env (env.set i s) [i] = env := by
    show (env.set i s).set i (env.getD i .no) = env
    exact set_getD hi
  rw [this, hun]
/-- the same without a test -/
theorem lc_all {α : Type} {x : CE} {i : Nat} {it : CI} {env : Env} {g : α → D} {f : α → D} {xs : List α} (hit : evI cf it env = some (xs.map g, env)) (hi : i < env.length) (hfree : free env [i] = true) (hlen : lenOk xs.length = true)
    (hun : unlend it env env = some env)
    (hs : ∀ k ∈ xs, evE cf x (env.set i (.val (g k))) = some (f k, env.set i (.val (g k)))) :
    evE cf (.lc x (.name i) it [i] .no) env = some (.lst (xs.map f), env) := by
  have := lc_one (cf := cf) (x := x) (t := .no) (P := fun _ => true) (f := f) hit hi hfree hlen hun (fun k hk => ⟨by simp only [evT], fun _ => hs k hk⟩)
  rw [List.filter_eq_self.2 (fun _ _ => rfl)] at this
  exact this
/-- a for with a state -/
theorem forGo_st {α σ : Type} {t : Tg} {bd : Env → RS} {g : α → D} {E : σ → Env → Prop} {step : σ → α → σ} : ∀ (xs : List α), (∀ k ∈ xs, ∀ s env, E s env → ∃ e1 e2, asgT t (g k) env = some e1 ∧ bd e1 = some (.nx, e2) ∧ E (step s k) e2) →
    ∀ s env, E s env → ∃ e2, forGo t bd (xs.map g) env = some (.nx, e2) ∧ E (xs.foldl step s) e2
  | [], _, s, env, h => ⟨env, rfl, h⟩
  | d :: ds, hs, s, env, h => by
    obtain ⟨e1, e2, h1, h2, h3⟩ := hs d List.mem_cons_self s env h
    obtain ⟨e3, h4, h5⟩ := forGo_st ds (fun d hd => hs d (List.mem_cons_of_mem _ hd)) _ e2 h3
    refine ⟨e3, ?_, h5⟩
    rw [List.map_cons]
    simp only [forGo, h1, h2, h4]
/-- a for that looks for something -/
theorem forGo_fd {α : Type} {t : Tg} {bd : Env → RS} {E : Env → Prop} {g : α → D} {P : α → Bool} {rv : D} : ∀ (xs : List α), (∀ k ∈ xs, ∀ env, E env → ∃ e1, asgT t (g k) env = some e1 ∧ ((P k = true ∧ ∃ e2, bd e1 = some (.rt rv, e2)) ∨ (P k = false ∧ ∃ e2, bd e1 = some (.nx, e2) ∧ E e2))) →
    ∀ env, E env → (xs.any P = true ∧ ∃ e2, forGo t bd (xs.map g) env = some (.rt rv, e2)) ∨ (xs.any P = false ∧ ∃ e2, forGo t bd (xs.map g) env = some (.nx, e2) ∧ E e2)
  | [], _, env, h => .inr ⟨rfl, env, rfl, h⟩
  | d :: ds, hs, env, h => by
    obtain ⟨e1, h1, h2⟩ := hs d List.mem_cons_self env h
    rcases h2 with ⟨hp, e2, h3⟩ | ⟨hp, e2, h3, he⟩
    · refine .inl ⟨by rw [List.any_cons, hp]; rfl, e2, ?_⟩
      rw [List.map_cons]
      simp only [forGo, h1, h3]
    · rcases forGo_fd ds (fun d hd => hs d (List.mem_cons_of_mem _ hd)) e2 he with ⟨ha, e3, h4⟩ | ⟨ha, e3, h4, h5⟩
      · exact .inl ⟨by rw [List.any_cons, ha, Bool.or_true], e3, by rw [List.map_cons]; simp only [forGo, h1, h3]; exact h4⟩
      · exact .inr ⟨by rw [List.any_cons, ha, hp]; rfl, e3, by rw [List.map_cons]; simp only [forGo, h1, h3]; exact h4, h5⟩
theorem for_nx {tg : Tg} {it : CI} {b : CSs} {env e1 e2 e3 : Env} {ds : List D} {f : Flow} (h1 : evI cf it env = some (ds, e1)) (h2 : forGo tg (exSs cf W b) ds e1 = some (f, e2)) (h3 : unlend it env e2 = some e3) : exS cf W (.for_ tg it b) env = some (f, e3) := for_of h1 h2 h3

/-! ### rows of numbers -/
abbrev N (n : Nat) : D := .int (n : Int)
theorem natsD_fit : ∀ (l : List Nat) (n : Nat), D.fitL (natsD l) n = true
  | [], n => by cases n <;> rfl
  | x :: l, n => by
    show (D.fit (.int (x : Int)) n && D.fitL (natsD l) n) = true
    rw [natsD_fit l n]
    cases n <;> rfl
theorem eqv_nats : ∀ (a b : List Nat), D.eqvL (natsD a) (natsD b) = (a == b)
  | [], [] => rfl
  | [], _ :: _ => rfl
  | _ :: _, [] => rfl
  | x :: a, y :: b => by
    show ((x : Int) == (y : Int) && D.eqvL (natsD a) (natsD b)) = (x :: a == y :: b)
    rw [eqv_nats a b]
    show _ = (x == y && a == b)
    congr 1
    rw [Bool.eq_iff_iff]
    simp only [beq_iff_eq]
    omega
theorem eqD_lst (a b : List Nat) : eqD (.lst (natsD a)) (.lst (natsD b)) = some (a == b) := by
  have h1 : D.fit (.lst (natsD a)) 64 = true := natsD_fit a 63
  have h2 : D.fit (.lst (natsD b)) 64 = true := natsD_fit b 63
  unfold eqD
  rw [h1, h2]
  show some (D.eqvL (natsD a) (natsD b)) = _
  rw [eqv_nats]
theorem eqD_tup (a b : List Nat) : eqD (.tup (natsD a)) (.tup (natsD b)) = some (a == b) := by
  have h1 : D.fit (.tup (natsD a)) 64 = true := natsD_fit a 63
  have h2 : D.fit (.tup (natsD b)) 64 = true := natsD_fit b 63
  unfold eqD
  rw [h1, h2]
  show some (D.eqvL (natsD a) (natsD b)) = _
  rw [eqv_nats]
theorem nats_get {l : List Nat} {r : Nat} (h : r < l.length) : (natsD l)[r]? = some (N (l.getD r 0)) := by
  unfold natsD
  rw [List.getElem?_map, List.getElem?_eq_getElem h, List.getD_eq_getElem?_getD, List.getElem?_eq_getElem h]
  rfl
theorem atI_nat {l : List Nat} {r : Nat} (h : r < l.length) : atI (natsD l) (r : Int) = some (N (l.getD r 0)) := by
  unfold atI
  rw [natsD_length, ixN_nat h]
  exact nats_get h
theorem ix_tup {l : List Nat} {r : Nat} (h : r < l.length) : ixD (.tup (natsD l)) (N r) = some (N (l.getD r 0)) := atI_nat h
theorem ix_lst {l : List Nat} {r : Nat} (h : r < l.length) : ixD (.lst (natsD l)) (N r) = some (N (l.getD r 0)) := atI_nat h
theorem eqv_N (a b : Nat) : D.eqv (N a) (N b) = (a == b) := by
  show ((a : Int) == (b : Int)) = _
  rw [Bool.eq_iff_iff]
  simp only [beq_iff_eq]
  omega
theorem findIx_nat (v : Nat) : ∀ (l : List Nat), v ∈ l → findIx (N v) (natsD l) = some (l.idxOf v)
  | [], h => by cases h
  | x :: l, h => by
    show (if D.eqv (N x) (N v) then some 0 else (findIx (N v) (natsD l)).map (· + 1)) = _
    rw [eqv_N, List.idxOf_cons]
    cases hx : x == v with
    | true => rfl
    | false =>
      have hv : v ∈ l := by
        rcases List.mem_cons.1 h with h | h
        · subst h
          simp at hx
        · exact h
      rw [findIx_nat v l hv]
      rfl
theorem memD_nat (v : Nat) : ∀ (l : List Nat), memD (N v) (natsD l) = l.contains v
  | [] => rfl
  | x :: l => by
    show (D.eqv (N x) (N v) || memD (N v) (natsD l)) = _
    rw [eqv_N, memD_nat v l, List.contains_cons]
    congr 1
    rw [Bool.eq_iff_iff]
    simp only [beq_iff_eq]
    exact eq_comm
theorem inD_tup (v : Nat) (l : List Nat) : inD (N v) (.tup (natsD l)) = some (l.contains v) := by
  show (if D.fit (N v) 60 && D.fitL (natsD l) 60 then some (memD (N v) (natsD l)) else none) = _
  rw [natsD_fit, memD_nat]
  rfl
def insN (x : Nat) : List Nat → List Nat
  | [] => [x]
  | y :: r => if y < x then y :: insN x r else x :: y :: r
def isortN : List Nat → List Nat
  | [] => []
  | x :: r => insN x (isortN r)
theorem lt_N (a b : Nat) : D.lt (N a) (N b) = decide (a < b) := by
  show decide ((a : Int) < (b : Int)) = _
  rw [Bool.eq_iff_iff]
  simp only [decide_eq_true_eq]
  omega
theorem ins_nat (x : Nat) : ∀ (l : List Nat), ins (N x) (natsD l) = natsD (insN x l)
  | [] => rfl
  | y :: l => by
    show (if D.lt (N y) (N x) then N y :: ins (N x) (natsD l) else N x :: natsD (y :: l)) = natsD (if y < x then y :: insN x l else x :: y :: l)
    rw [lt_N, ins_nat x l]
    by_cases h : y < x
    · rw [if_pos h, if_pos (decide_eq_true h)]; rfl
    · rw [if_neg h, if_neg (by rw [decide_eq_false h]; exact Bool.false_ne_true)]; rfl
theorem isort_nat : ∀ (l : List Nat), isort (natsD l) = natsD (isortN l)
  | [] => rfl
  | x :: l => by
    show ins (N x) (isort (natsD l)) = _
    rw [isort_nat l, ins_nat]
    rfl
theorem alikeEach_nat : ∀ (l : List Nat), alikeEach (natsD l) = true
  | [] => rfl
  | x :: l => by
    show (D.alike (N x) (N x) && (natsD l).all (fun y => D.alike (N x) y && D.alike y (N x)) && alikeEach (natsD l)) = true
    rw [alikeEach_nat l, Bool.and_true]
    have : (natsD l).all (fun y => D.alike (N x) y && D.alike y (N x)) = true := by
      rw [List.all_eq_true]
      intro y hy
      obtain ⟨n, _, rfl⟩ := List.mem_map.1 hy
      rfl
    rw [this]
    rfl
theorem sort_nat {l : List Nat} (h : lenOk l.length = true) : b1 .sorted (.lst (natsD l)) = some (.lst (natsD (isortN l))) := by
  have h2 : sortable (natsD l) = true := by
    unfold sortable
    have : (natsD l).all (fun d => !isTup d && !isNon d) = true := by
      rw [List.all_eq_true]
      intro y hy
      obtain ⟨n, _, rfl⟩ := List.mem_map.1 hy
      rfl
    rw [this, Bool.or_true, Bool.true_or]
  show (sortD (natsD l)).map D.lst = _
  unfold sortD
  rw [natsD_length, h, h2, alikeEach_nat, natsD_fit, isort_nat]
  rfl
theorem rev_tup (l : List Nat) : revD (.tup (natsD l)) = some (.tup (natsD l.reverse)) := by
  show some (D.tup (natsD l).reverse) = _
  unfold natsD
  rw [List.map_reverse]
theorem len_tup (l : List Nat) : b1 .len (.tup (natsD l)) = some (N l.length) := by
  show some (D.int ((natsD l).length : Nat)) = _
  rw [natsD_length]
theorem add_tup {a b : List Nat} (h : lenOk (a.length + b.length) = true) : binD .add (.tup (natsD a)) (.tup (natsD b)) = some (.tup (natsD (a ++ b))) := by
  show (if lenOk ((natsD a).length + (natsD b).length) then some (D.tup (natsD a ++ natsD b)) else none) = _
  rw [natsD_length, natsD_length, h]
  unfold natsD
  rw [List.map_append]
  rfl
theorem add_lst {a b : List Nat} (h : lenOk (a.length + b.length) = true) : binD .add (.lst (natsD a)) (.lst (natsD b)) = some (.lst (natsD (a ++ b))) := by
  show (if lenOk ((natsD a).length + (natsD b).length) then some (D.lst (natsD a ++ natsD b)) else none) = _
  rw [natsD_length, natsD_length, h]
  unfold natsD
  rw [List.map_append]
  rfl
theorem lenOk_small {n : Nat} (h : n ≤ 1000000) : lenOk n = true := by
  unfold lenOk
  rw [Nat.ble_eq]
  have : (1000000 : Nat) ≤ big := by decide
  omega
/-! rows of rows -/
def rowsD (rs : List (List Nat)) : List D := rs.map fun r => .tup (natsD r)
theorem rowsD_length (l : List (List Nat)) : (rowsD l).length = l.length := List.length_map ..
theorem rowsD_fit : ∀ (l : List (List Nat)) (n : Nat), D.fitL (rowsD l) (n + 1) = true
  | [], n => rfl
  | x :: l, n => by
    show (D.fitL (natsD x) n && D.fitL (rowsD l) (n + 1)) = true
    rw [rowsD_fit l n, natsD_fit]
    rfl
theorem eqv_rows : ∀ (a b : List (List Nat)), D.eqvL (rowsD a) (rowsD b) = (a == b)
  | [], [] => rfl
  | [], _ :: _ => rfl
  | _ :: _, [] => rfl
  | x :: a, y :: b => by
    show (D.eqvL (natsD x) (natsD y) && D.eqvL (rowsD a) (rowsD b)) = (x :: a == y :: b)
    rw [eqv_rows a b, eqv_nats]
    rfl
theorem eqD_rows (a b : List (List Nat)) : eqD (.lst (rowsD a)) (.lst (rowsD b)) = some (a == b) := by
  have h1 : D.fit (.lst (rowsD a)) 64 = true := rowsD_fit a 62
  have h2 : D.fit (.lst (rowsD b)) 64 = true := rowsD_fit b 62
  unfold eqD
  rw [h1, h2]
  show some (D.eqvL (rowsD a) (rowsD b)) = _
  rw [eqv_rows]
theorem memD_row (v : List Nat) : ∀ (l : List (List Nat)), memD (.tup (natsD v)) (rowsD l) = l.contains v
  | [] => rfl
  | x :: l => by
    show (D.eqvL (natsD x) (natsD v) || memD (.tup (natsD v)) (rowsD l)) = _
    rw [eqv_nats, memD_row v l, List.contains_cons]
    congr 1
    rw [Bool.eq_iff_iff]
    simp only [beq_iff_eq]
    exact eq_comm
theorem inD_rows (v : List Nat) (l : List (List Nat)) : inD (.tup (natsD v)) (.lst (rowsD l)) = some (l.contains v) := by
  have h1 : D.fit (.tup (natsD v)) 60 = true := natsD_fit v 59
  show (if D.fit (.tup (natsD v)) 60 && D.fitL (rowsD l) 60 then some (memD (.tup (natsD v)) (rowsD l)) else none) = _
  rw [h1, rowsD_fit, memD_row]
  rfl
def ltN : List Nat → List Nat → Bool
  | [], [] => false
  | [], _ :: _ => true
  | _ :: _, [] => false
  | x :: xs, y :: ys => if x = y then ltN xs ys else decide (x < y)
theorem lt_row : ∀ (a b : List Nat), D.ltL (natsD a) (natsD b) = ltN a b
  | [], [] => rfl
  | [], _ :: _ => rfl
  | _ :: _, [] => rfl
  | x :: a, y :: b => by
    show (if D.eqv (N x) (N y) then D.ltL (natsD a) (natsD b) else D.lt (N x) (N y)) = (if x = y then ltN a b else decide (x < y))
    rw [eqv_N, lt_row a b, lt_N]
    by_cases h : x = y
    · rw [if_pos h, if_pos (by rw [h]; exact BEq.rfl)]
    · rw [if_neg h, if_neg (by intro hh; exact h (beq_iff_eq.1 hh))]
def insR (x : List Nat) : List (List Nat) → List (List Nat)
  | [] => [x]
  | y :: r => if ltN y x then y :: insR x r else x :: y :: r
def isortR : List (List Nat) → List (List Nat)
  | [] => []
  | x :: r => insR x (isortR r)
theorem ins_row (x : List Nat) : ∀ (l : List (List Nat)), ins (.tup (natsD x)) (rowsD l) = rowsD (insR x l)
  | [] => rfl
  | y :: l => by
    show (if D.ltL (natsD y) (natsD x) then .tup (natsD y) :: ins (.tup (natsD x)) (rowsD l) else .tup (natsD x) :: rowsD (y :: l)) = rowsD (if ltN y x then y :: insR x l else x :: y :: l)
    rw [lt_row, ins_row x l]
    cases ltN y x <;> rfl
theorem isort_row : ∀ (l : List (List Nat)), isort (rowsD l) = rowsD (isortR l)
  | [] => rfl
  | x :: l => by
    show ins (.tup (natsD x)) (isort (rowsD l)) = _
    rw [isort_row l, ins_row]
    rfl
theorem alike_row : ∀ (a b : List Nat), D.alikeL (natsD a) (natsD b) = true
  | [], [] => rfl
  | [], _ :: _ => rfl
  | _ :: _, [] => rfl
  | x :: a, y :: b => by
    show (true && D.alikeL (natsD a) (natsD b)) = true
    rw [alike_row a b]
    rfl
theorem alikeEach_row : ∀ (l : List (List Nat)), alikeEach (rowsD l) = true
  | [] => rfl
  | x :: l => by
    show (D.alikeL (natsD x) (natsD x) && (rowsD l).all (fun y => D.alike (.tup (natsD x)) y && D.alike y (.tup (natsD x))) && alikeEach (rowsD l)) = true
    rw [alikeEach_row l, Bool.and_true, alike_row]
    have : (rowsD l).all (fun y => D.alike (.tup (natsD x)) y && D.alike y (.tup (natsD x))) = true := by
      rw [List.all_eq_true]
      intro y hy
      obtain ⟨n, _, rfl⟩ := List.mem_map.1 hy
      show (D.alikeL (natsD x) (natsD n) && D.alikeL (natsD n) (natsD x)) = true
      rw [alike_row, alike_row]
      rfl
    rw [this]
    rfl
end Tape
end

section
/-! WalkB: more steps for walks (out of the walks of k48). -/
set_option autoImplicit false
set_option linter.all false
set_option maxRecDepth 100000
set_option maxHeartbeats 4000000
namespace Tape
open Cv
variable {cf : CallF} {W : Nat}
def rng (lo hi : Nat) : List Nat := (List.range (hi - lo)).map (lo + ·)
theorem rngL_rng (lo hi : Nat) : rngL (lo : Int) ((hi : Int) - (lo : Int)).toNat = natsD (rng lo hi) := by
  unfold rngL natsD rng
  have : ((hi : Int) - (lo : Int)).toNat = hi - lo := by omega
  rw [this, List.map_map]
  exact List.map_congr_left fun k _ => by simp only [Function.comp]; rw [Int.natCast_add]
theorem rng2_of {a b : CE} {env e1 e2 : Env} {i j : Nat} (h : evE cf a env = some (N i, e1)) (h2 : evE cf b e1 = some (N j, e2)) (hi : i < 1000000) (hj : j < 1000000) : evI cf (.rng2 a b) env = some (natsD (rng i j), e2) := by
  simp only [evI, h, h2, rng_nat hi, rng_nat hj, Bool.and_self, if_true, rngL_rng]
theorem walk_e {a : CE} {env e1 : Env} {d : D} {xs : List D} (h : evE cf a env = some (d, e1)) (hw : walkOf d = some xs) : evI cf (.e a) env = some (xs, e1) := by
  simp only [evI, h, hw]
theorem walk_v {i : Nat} {env : Env} {d : D} {xs : List D} (h : env[i]? = some (.val d)) (hw : walkOf d = some xs) : evI cf (.own i) env = some (xs, env) := by
  simp only [evI, h, hw]
theorem mem_rng {lo hi k : Nat} : k ∈ rng lo hi ↔ lo ≤ k ∧ k < hi := by
  unfold rng
  rw [List.mem_map]
  constructor
  · rintro ⟨x, h1, h2⟩
    rw [List.mem_range] at h1
    omega
  · rintro ⟨h1, h2⟩
    exact ⟨k - lo, by rw [List.mem_range]; omega, by omega⟩
theorem free_st {x : Sl} (h : St x) : (match some x with
    | some .no => true
    | some (.val _) => true
    | _ => false) = true := by
  rcases h with rfl | ⟨d, rfl⟩ <;> rfl
theorem any_congr {α : Type} {l : List α} {p q : α → Bool} (h : ∀ x ∈ l, p x = q x) : l.any p = l.any q := by
  induction l with
  | nil => rfl
  | cons x l ih => rw [List.any_cons, List.any_cons, h x List.mem_cons_self, ih fun y hy => h y (List.mem_cons_of_mem _ hy)]
theorem for_fd {α : Type} {tg : Tg} {it : CI} {b : CSs} {env : Env} {E : Env → Prop} {g : α → D} {P : α → Bool} {rv : D} {xs : List α} (h1 : evI cf it env = some (xs.map g, env)) (hun : ∀ e, unlend it env e = some e) (he : E env)
    (hs : ∀ k ∈ xs, ∀ env, E env → ∃ e1, asgT tg (g k) env = some e1 ∧ ((P k = true ∧ ∃ e2, exSs cf W b e1 = some (.rt rv, e2)) ∨ (P k = false ∧ ∃ e2, exSs cf W b e1 = some (.nx, e2) ∧ E e2))) :
    (xs.any P = true ∧ ∃ e2, exS cf W (.for_ tg it b) env = some (.rt rv, e2)) ∨ (xs.any P = false ∧ ∃ e2, exS cf W (.for_ tg it b) env = some (.nx, e2) ∧ E e2) := by
  rcases forGo_fd xs hs env he with ⟨h2, e2, h3⟩ | ⟨h2, e2, h3, h4⟩
  · exact .inl ⟨h2, e2, for_of h1 h3 (hun _)⟩
  · exact .inr ⟨h2, e2, for_of h1 h3 (hun _), h4⟩
theorem for_fd1 {E : Env → Prop} {P : Bool} {rv : D} {s : CS} {env : Env} (h : (P = true ∧ ∃ e2, exS cf W s env = some (.rt rv, e2)) ∨ (P = false ∧ ∃ e2, exS cf W s env = some (.nx, e2) ∧ E e2)) :
    (P = true ∧ ∃ e2, exSs cf W (.cons s .nil) env = some (.rt rv, e2)) ∨ (P = false ∧ ∃ e2, exSs cf W (.cons s .nil) env = some (.nx, e2) ∧ E e2) := by
  rcases h with ⟨h1, e2, h2⟩ | ⟨h1, e2, h2, h3⟩
  · exact .inl ⟨h1, e2, exs_ret h2⟩
  · exact .inr ⟨h1, e2, by rw [exs_cons h2]; exact exs_nil, h3⟩
theorem imp_E {E F : Env → Prop} {P : Bool} {rv : D} {x : RS} (h : (P = true ∧ ∃ e2, x = some (.rt rv, e2)) ∨ (P = false ∧ ∃ e2, x = some (.nx, e2) ∧ E e2)) (i : ∀ e, E e → F e) : (P = true ∧ ∃ e2, x = some (.rt rv, e2)) ∨ (P = false ∧ ∃ e2, x = some (.nx, e2) ∧ F e2) := by
  rcases h with h | ⟨h1, e2, h2, h3⟩
  · exact .inl h
  · exact .inr ⟨h1, e2, h2, i _ h3⟩
theorem sub_nat {i j : Nat} (h : j ≤ i) : binD .sub (N i) (N j) = some (N (i - j)) := by
  show (some ((i : Int) - (j : Int))).map D.int = _
  rw [← Int.natCast_sub h]
  rfl
theorem map_natsD {α : Type} (f : α → Nat) (l : List α) : l.map (fun x => N (f x)) = natsD (l.map f) := by
  unfold natsD
  rw [List.map_map]
  rfl
theorem tup_lst {a : CE} {env e1 : Env} {xs : List D} (h : evE cf a env = some (.lst xs, e1)) (nv : nvar a = true) : evE cf (.b1 .tuple a) env = some (.tup xs, e1) := b1_O (O_e h nv) rfl
theorem gt_N {a b : Nat} : cmpD .gt (N a) (N b) = some (decide (b < a)) := by
  show some (decide ((b : Int) < (a : Int))) = _
  congr 1
  rw [Bool.eq_iff_iff, decide_eq_true_eq, decide_eq_true_eq]
  omega
theorem eq_N {a b : Nat} : cmpD .eq (N a) (N b) = some (a == b) := by
  show some ((a : Int) == (b : Int)) = _
  congr 1
  rw [Bool.eq_iff_iff, beq_iff_eq, beq_iff_eq]
  omega
theorem ne_N {a b : Nat} : cmpD .ne (N a) (N b) = some (a != b) := by
  show (some ((a : Int) == (b : Int))).map (!·) = _
  have : ((a : Int) == (b : Int)) = (a == b) := by
    rw [Bool.eq_iff_iff, beq_iff_eq, beq_iff_eq]
    omega
  rw [this]
  rfl
theorem one_if {c : CE} {env : Env} {b : Bool} (h : evE cf c env = some (.bl b, env)) (nv : nvar c = true) : evE cf (.ite c (.lit (.int 1)) (.lit (.int 0))) env = some (N (if b then 1 else 0), env) := by
  cases b
  · rw [ite_f (T_b h nv)]; rfl
  · rw [ite_t (T_b h nv)]; rfl
theorem forGo_ix {σ : Type} {t : Tg} {bd : Env → RS} {E : Nat → σ → Env → Prop} {step : σ → Nat → σ} : ∀ (n lo : Nat), (∀ k, lo ≤ k → k < lo + n → ∀ s env, E k s env → ∃ e1 e2, asgT t (N k) env = some e1 ∧ bd e1 = some (.nx, e2) ∧ E (k + 1) (step s k) e2) →
    ∀ s env, E lo s env → ∃ e2, forGo t bd (natsD (List.range' lo n)) env = some (.nx, e2) ∧ E (lo + n) ((List.range' lo n).foldl step s) e2
  | 0, lo, _, s, env, h => ⟨env, rfl, h⟩
  | n + 1, lo, hs, s, env, h => by
    obtain ⟨e1, e2, h1, h2, h3⟩ := hs lo (Nat.le_refl _) (by omega) s env h
    obtain ⟨e3, h4, h5⟩ := forGo_ix n (lo + 1) (fun k hk hk2 => hs k (by omega) (by omega)) _ e2 h3
    refine ⟨e3, ?_, ?_⟩
    · rw [List.range'_succ]
      show forGo t bd (N lo :: natsD (List.range' (lo + 1) n)) env = _
      simp only [forGo, h1, h2, h4]
    · rw [List.range'_succ, List.foldl_cons]
      have : lo + 1 + n = lo + (n + 1) := by omega
      rw [this] at h5
      exact h5
theorem rng_range' (lo hi : Nat) : rng lo hi = List.range' lo (hi - lo) := by
  unfold rng
  rw [List.range_eq_range', List.map_add_range']
  simp
theorem add_N (a b : Nat) : binD .add (N a) (N b) = some (N (a + b)) := rfl
theorem flatMap_len {α β : Type} {f : α → List β} {m : Nat} : ∀ (l : List α), (∀ x ∈ l, (f x).length ≤ m) → (l.flatMap f).length ≤ l.length * m
  | [], _ => by simp
  | x :: l, h => by
    have h1 := flatMap_len l fun y hy => h y (List.mem_cons_of_mem _ hy)
    have h2 := h x List.mem_cons_self
    rw [List.flatMap_cons, List.length_append, List.length_cons, Nat.succ_mul]
    omega
theorem lcGo2_a {α : Type} {tg : Tg} {own : List Nat} {t : Env → Option (Bool × Env)} {inner : Env → Option (List D × Env)} {E : Env → Prop} {g : α → D} {f : α → List D} : ∀ (xs : List α),
    (∀ k ∈ xs, ∀ env, E env → ∃ e1 e2, asgT tg (g k) (wipeS env own) = some e1 ∧ t e1 = some (true, e1) ∧ inner e1 = some (f k, e2) ∧ E e2) →
    ∀ env, E env → ∃ e2, lcGo2 tg own t inner (xs.map g) env = some (xs.flatMap f, e2) ∧ E e2
  | [], _, env, h => ⟨env, rfl, h⟩
  | d :: ds, hs, env, h => by
    obtain ⟨e1, e2, h1, h2, h3, h4⟩ := hs d List.mem_cons_self env h
    obtain ⟨e4, h7, h8⟩ := lcGo2_a ds (fun d hd => hs d (List.mem_cons_of_mem _ hd)) e2 h4
    refine ⟨e4, ?_, h8⟩
    rw [List.flatMap_cons, List.map_cons]
    simp only [lcGo2, h1, h2, h3, h7]
theorem lc2_of {x : CE} {tg tg2 : Tg} {it it2 : CI} {t t2 : CO} {own own2 : List Nat} {env e1 e2 e3 : Env} {ds r : List D} (h1 : evI cf it env = some (ds, e1)) (h2 : free e1 own = true) (h3 : lenOk ds.length = true)
    (h4 : lcGo2 tg own (evT cf t) (fun v => match evI cf it2 v with
            | none => none
            | some (ds2, v1) => match it2 with
              | .own _ => none
              | _ => if lenOk ds2.length then lcGo tg2 own2 (evT cf t2) (evE cf x) ds2 v1 else none) ds e1 = some (r, e2)) (hr : lenOk r.length = true)
    (h5 : unlend it env (back e1 e2 own) = some e3) : evE cf (.lc2 x tg it t tg2 it2 t2 own own2) env = some (.lst r, e3) := by
  simp only [evE, h1, h2, h3, Bool.and_self, if_true]
  generalize hq : lcGo2 _ _ _ _ ds e1 = q
  have hq2 : q = some (r, e2) := hq.symm.trans h4
  subst hq2
  simp only [hr, h5, if_true]
theorem truth_b {b : Bool} : truth (.bl b) = some b := rfl
theorem chain_in {lo hi : Int} {i n : Nat} {env : Env} (h : env[i]? = some (.val (N n))) (h1 : lo ≤ (n : Int)) (h2 : (n : Int) ≤ hi) : T cf (.nott (.chain .le .le (.lit (.int lo)) (.var i) (.lit (.int hi)))) env false env := by
  refine T_b (b := false) ?_ rfl
  refine nott_of (b := true) (T_b (chain_t (x := .int lo) (y := N n) (z := .int hi) rfl (ev_v h) ?_ rfl ?_) rfl)
  · show some (decide (lo ≤ (n : Int))) = _
    rw [decide_eq_true h1]
  · show some (decide ((n : Int) ≤ hi)) = _
    rw [decide_eq_true h2]
theorem boolsOf_map {α : Type} {f : α → Bool} : ∀ (l : List α), boolsOf (l.map fun x => D.bl (f x)) = some (l.map f)
  | [] => rfl
  | x :: l => by
    show (boolsOf (l.map fun x => D.bl (f x))).map (f x :: ·) = _
    rw [boolsOf_map l]
    rfl
theorem any_map_id {α : Type} {f : α → Bool} {l : List α} : (l.map f).any id = l.any f := by
  induction l with
  | nil => rfl
  | cons x l ih => rw [List.map_cons, List.any_cons, List.any_cons, ih]; rfl
theorem b1_any {α : Type} {f : α → Bool} {l : List α} : b1 .any (.lst (l.map fun x => D.bl (f x))) = some (.bl (l.any f)) := by
  show (boolsOf (l.map fun x => D.bl (f x))).map _ = _
  rw [boolsOf_map]
  show some (D.bl ((l.map f).any id)) = _
  rw [any_map_id]
theorem asg_two {i j : Nat} {env e1 : Env} {a b : D} {own : List Nat} (h : asgTs [.name i, .name j] [a, b] (wipeS env own) = some e1) : asgT (.tup [.name i, .name j]) (.tup [a, b]) (wipeS env own) = some e1 := by
  simp only [asgT]
  exact h
theorem le_N {a b : Nat} : cmpD .le (N a) (N b) = some (decide (a ≤ b)) := by
  show some (decide ((a : Int) ≤ (b : Int))) = _
  congr 1
  rw [Bool.eq_iff_iff, decide_eq_true_eq, decide_eq_true_eq]
  omega
theorem mul_N {a b : Nat} (h : b < 1000000) : binD .mul (N a) (N b) = some (N (a * b)) := by
  show (binI .mul (a : Int) (b : Int)).map D.int = _
  rw [mul_nat a b (by omega)]
  rfl
theorem div_N {a b : Nat} (h0 : 0 < b) (h : b < 1000000) : binD .fdiv (N a) (N b) = some (N (a / b)) := by
  show (binI .fdiv (a : Int) (b : Int)).map D.int = _
  rw [div_ok (by omega) (by omega)]
  rfl
theorem intsOf_nats : ∀ (l : List Nat), intsOf (natsD l) = some (l.map Int.ofNat)
  | [] => rfl
  | x :: l => by
    show (intsOf (natsD l)).map ((x : Int) :: ·) = _
    rw [intsOf_nats l]
    rfl
theorem sum_ofNat (l : List Nat) : (l.map Int.ofNat).sum = (l.sum : Nat) := by
  induction l with
  | nil => rfl
  | cons x l ih =>
    rw [List.map_cons, List.sum_cons, List.sum_cons, ih, Int.natCast_add]
    rfl
theorem b1_sum {l : List Nat} : b1 .sum (.lst (natsD l)) = some (N l.sum) := by
  show (intsOf (natsD l)).map _ = _
  rw [intsOf_nats]
  show some (D.int (l.map Int.ofNat).sum) = _
  rw [sum_ofNat]
theorem ix_own {q : Nat} {i : CE} {l : List Nat} {r : Nat} {env : Env} (h : env[q]? = some (.own (.lst (natsD l)))) (hi : evE cf i env = some (N r, env)) (hr : r < l.length) : evE cf (.ix (.var q) i) env = some (N (l.getD r 0), env) := by
  have ox : ∀ z, opd (.var q) env z = some (.s q, env) := fun z => by simp only [opd, h]
  simp only [evE, ox, hi, rd, peek, h, ix_lst hr]
theorem mul_N2 {a b : Nat} (h : a < 1000000) : binD .mul (N a) (N b) = some (N (a * b)) := by
  show (binI .mul (a : Int) (b : Int)).map D.int = _
  have : mulOk (a : Int) (b : Int) = true := by
    have h1 : (-18446744073709551616 : Int) < (a : Int) := by omega
    have h2 : (a : Int) < (18446744073709551616 : Int) := by omega
    simp only [mulOk, h1, h2, decide_true, Bool.and_self, Bool.true_or]
  show (if mulOk (a : Int) (b : Int) then some ((a : Int) * (b : Int)) else none).map D.int = _
  rw [this]
  rfl
theorem mul_N3 {a b : Nat} (h : b < 18446744073709551616) : binD .mul (N a) (N b) = some (N (a * b)) := by
  show (binI .mul (a : Int) (b : Int)).map D.int = _
  rw [mul_nat a b (by omega)]
  rfl
theorem andt_p {a b : CE} {env : Env} {x y : Bool} (h : evE cf a env = some (.bl x, env)) (h2 : evE cf b env = some (.bl y, env)) : evE cf (.andt a b) env = some (.bl (x && y), env) := by
  cases x
  · rw [andt_f h]; rfl
  · rw [andt_t h, h2]; rfl
theorem for_inv {α : Type} {tg : Tg} {it : CI} {b : CSs} {env : Env} {E : Env → Prop} {g : α → D} {xs : List α} (h1 : evI cf it env = some (xs.map g, env)) (hun : ∀ e, unlend it env e = some e) (he : E env)
    (hs : ∀ k ∈ xs, ∀ env, E env → ∃ e1 e2, asgT tg (g k) env = some e1 ∧ exSs cf W b e1 = some (.nx, e2) ∧ E e2) : ∃ e2, exS cf W (.for_ tg it b) env = some (.nx, e2) ∧ E e2 := by
  obtain ⟨e2, h2, h3⟩ := forGo_st (E := fun (_ : Unit) e => E e) (step := fun _ _ => ()) xs (fun k hk _ env he => hs k hk env he) () env he
  exact ⟨e2, for_of h1 h2 (hun _), h3⟩
theorem drawT {j m : Nat} (hd : Draws cf j) {t : D} (ht : TapeOk t) {c : CE} {rest : Env} (hc : evE cf c (.io t :: rest) = some (N m, .io t :: rest)) (h0 : 0 < m) (h1 : m < 1000000) :
    ∃ r t', evE cf (.callT j 0 (.cons c .nil)) (.io t :: rest) = some (N r, .io t' :: rest) ∧ r < m ∧ TapeOk t' := by
  obtain ⟨r, t', g1, g2, g3⟩ := hd t m ht h0 h1
  exact ⟨r, t', callT_of rfl (evL_one hc) rfl g1, g2, g3⟩
def Mixes (cf : CallF) (j : Nat) : Prop := ∀ (t : D) (n : Nat), TapeOk t → n < 1000 → ∃ (p : List Nat) (t' : D), cf j [t, N n] = some (.tup (natsD p), t') ∧ p.Perm (List.range n) ∧ TapeOk t'
theorem mixT {j m : Nat} (hd : Mixes cf j) {t t1 : D} (ht : TapeOk t1) {c : CE} {rest : Env} (hc : evE cf c (.io t :: rest) = some (N m, .io t1 :: rest)) (h1 : m < 1000) :
    ∃ p t', evE cf (.callT j 0 (.cons c .nil)) (.io t :: rest) = some (.tup (natsD p), .io t' :: rest) ∧ p.Perm (List.range m) ∧ TapeOk t' := by
  obtain ⟨r, t', g1, g2, g3⟩ := hd t1 m ht h1
  exact ⟨r, t', callT_of rfl (evL_one hc) rfl g1, g2, g3⟩
theorem ne_B {a b : Bool} : cmpD .ne (.bl a) (.bl b) = some (a != b) := rfl
theorem isn_B {a b : Bool} : cmpD .isn (.bl a) (.bl b) = some (a != b) := rfl
theorem is_B {a b : Bool} : cmpD .is (.bl a) (.bl b) = some (a == b) := rfl
theorem bne_self_b (b : Bool) : (b != b) = false := by cases b <;> rfl
theorem set_set_ne {i j : Nat} (h : i ≠ j) {env : Env} {a b c : Sl} : ((env.set i a).set j b).set i c = (env.set i c).set j b := by
  rw [List.set_comm _ _ h, List.set_set, List.set_comm _ _ (Ne.symm h)]
theorem lcGo_ex {α β : Type} {tg : Tg} {own : List Nat} {t : Env → Option (Bool × Env)} {e : Env → R} {E : Env → Prop} {g : α → D} {h : β → D} {Q : β → Prop} : ∀ (xs : List α),
    (∀ k ∈ xs, ∀ env, E env → ∃ e1 e3 y, asgT tg (g k) (wipeS env own) = some e1 ∧ t e1 = some (true, e1) ∧ e e1 = some (h y, e3) ∧ Q y ∧ E e3) →
    ∀ env, E env → ∃ (e2 : Env) (ys : List β), lcGo tg own t e (xs.map g) env = some (ys.map h, e2) ∧ E e2 ∧ ys.length = xs.length ∧ ∀ y ∈ ys, Q y
  | [], _, env, he => ⟨env, [], rfl, he, rfl, fun _ h => by cases h⟩
  | d :: ds, hs, env, he => by
    obtain ⟨e1, e3, y, h1, h2, h3, h4, h5⟩ := hs d List.mem_cons_self env he
    obtain ⟨e4, ys, h6, h7, h8, h9⟩ := lcGo_ex ds (fun d hd => hs d (List.mem_cons_of_mem _ hd)) e3 h5
    refine ⟨e4, y :: ys, ?_, h7, by rw [List.length_cons, List.length_cons, h8], fun z hz => ?_⟩
    · rw [List.map_cons, List.map_cons]
      simp only [lcGo, h1, h2, h3, h6]
    · rcases List.mem_cons.1 hz with rfl | hz
      · exact h4
      · exact h9 z hz
theorem cutL_to {α : Type} (xs : List α) (h : Nat) : cutL xs none (some (h : Int)) = xs.take h := by
  unfold cutL
  have e0 : sIx xs.length 0 none = 0 := rfl
  have e1 : sIx xs.length xs.length (some (h : Int)) = min h xs.length := by
    show (if (h : Int) < 0 then ((h : Int) + (xs.length : Nat)).toNat else if (h : Int) < (xs.length : Nat) then (h : Int).toNat else xs.length) = _
    rw [if_neg (by omega)]
    split <;> omega
  rw [e0, e1, List.drop_zero, Nat.sub_zero]
  by_cases hl : h ≤ xs.length
  · rw [Nat.min_eq_left hl]
  · rw [Nat.min_eq_right (by omega), List.take_of_length_le (Nat.le_refl _), List.take_of_length_le (by omega)]
theorem b1_all {α : Type} {f : α → Bool} {l : List α} : b1 .all (.lst (l.map fun x => D.bl (f x))) = some (.bl (l.all f)) := by
  show (boolsOf (l.map fun x => D.bl (f x))).map _ = _
  rw [boolsOf_map]
  show some (D.bl ((l.map f).all id)) = _
  rw [List.all_map]
  rfl
theorem aug_of {i : Nat} {e : CE} {old v : Nat} {env env2 : Env} (ho : env[i]? = some (.val (N old))) (he : evE cf e env = some (N v, env)) (hs : store i (.val (N (old + v))) env = some env2) : exS cf W (.aug i .add e) env = some (.nx, env2) := by
  have h : augD .add (N old) (N v) = some (N (old + v)) := rfl
  simp only [exS, ho, he, h, hs]
theorem callN_of {j i : Nat} {es : CEs} {env e1 : Env} {ds : List D} {d r o : D} (a1 : isRoS env i = true) (a2 : evL cf es env = some (ds, e1)) (a3 : e1[i]? = some (.ro d)) (a4 : cf j (d :: ds) = some (r, o)) : evE cf (.callN j i es) env = some (r, e1) := by
  simp only [evE, a1, a2, a3, a4, if_true]
theorem callO_of {j i : Nat} {es : CEs} {env e1 : Env} {ds : List D} {d r o : D} (a1 : isObjS env i = true) (a2 : evL cf es env = some (ds, e1)) (a3 : e1[i]? = some (.own d)) (a4 : cf j (d :: ds) = some (r, o)) : evE cf (.callT j i es) env = some (r, e1.set i (.own o)) := by
  simp only [evE, a1, a2, a3, a4, if_true]
theorem asgO_of {i : Nat} {e : CE} {env e1 e2 : Env} {d : D} (h : evE cf e env = some (d, e1)) (ho : isObj d = true) (hs : store i (.own d) e1 = some e2) : exS cf W (.asgO i e) env = some (.nx, e2) := by
  simp only [exS, h, ho, hs, if_true]
theorem runF_ro {np n : Nat} {body : CSs} {a : D} {args : List D} {d : D} {e : Env} (hl : ((a :: args).length == np) = true) (h : exSs cf W body (.ro a :: args.map .val ++ List.replicate (n - np) .no) = some (.rt d, e)) :
    runF cf W ⟨np, n, .ro, body⟩ (a :: args) = some (d, .non) := by
  have h2 : exSs cf W body (startE .ro (a :: args) ++ List.replicate (n - np) .no) = some (.rt d, e) := h
  unfold runF
  simp only [hl, if_true, h2, ioOut]
theorem callI_at {fs : List CF} {W n f : Nat} {args : List D} {F : CF} (h : fs[f]? = some F) : callI fs W (n + 1) f args = runF (callI fs W n) W F args := by
  simp only [callI, h]
end Tape
end

section
/-! K59A: patterns as functions of all whole numbers: steps, moves, papers. Plain Lean. -/
set_option autoImplicit false
set_option linter.all false
set_option maxRecDepth 100000
set_option maxHeartbeats 4000000
namespace Pat
abbrev Fn := Int → List Nat
/-- F is G moved by t -/
def Sh (G F : Fn) (t : Int) : Prop := ∀ x, G (x + t) = F x
def neg (F : Fn) : Fn := fun x => F (-1 - x)
def rv (F : Fn) : Fn := fun x => (F x).reverse
def IsStep (F : Fn) (S : Nat) : Prop := 0 < S ∧ ∀ q : Int, Sh F F q ↔ (S : Int) ∣ q
def IsMove (G F : Fn) (S : Nat) : Option Nat → Prop
  | none => ∀ t, ¬ Sh G F t
  | some m => m < S ∧ ∀ t : Int, Sh G F t ↔ (S : Int) ∣ t - (m : Int)
structure Pap where
  step : Nat
  mirror : Option Nat
  level : Bool
  turn : Option Nat
  glide : Option Nat
structure IsPap (F : Fn) (p : Pap) : Prop where
  step : IsStep F p.step
  mirror : IsMove (neg F) F p.step p.mirror
  level : p.level = true ↔ ∀ x, rv F x = F x
  turn : IsMove (rv (neg F)) F p.step p.turn
  glide : if p.level = true then p.glide = none else IsMove (rv F) F p.step p.glide
theorem dvd_small {S m n : Nat} (hm : m < S) (hn : n < S) (h : (S : Int) ∣ (m : Int) - (n : Int)) : m = n := by
  obtain ⟨k, hk⟩ := h
  have : k = 0 := by
    by_cases h1 : k ≤ -1
    · have : (S : Int) * k ≤ (S : Int) * (-1) := Int.mul_le_mul_of_nonneg_left h1 (by omega)
      omega
    · by_cases h2 : 1 ≤ k
      · have : (S : Int) * 1 ≤ (S : Int) * k := Int.mul_le_mul_of_nonneg_left h2 (by omega)
        omega
      · omega
  rw [this, Int.mul_zero] at hk
  omega
theorem step_unique {F : Fn} {S T : Nat} (h : IsStep F S) (g : IsStep F T) : S = T := by
  have h1 : (S : Int) ∣ (T : Int) := (h.2 T).1 ((g.2 T).2 (Int.dvd_refl _))
  have h2 : (T : Int) ∣ (S : Int) := (g.2 S).1 ((h.2 S).2 (Int.dvd_refl _))
  exact Nat.dvd_antisymm (Int.natCast_dvd_natCast.1 h1) (Int.natCast_dvd_natCast.1 h2)
theorem move_unique {G F : Fn} {S : Nat} : ∀ {a b : Option Nat}, IsMove G F S a → IsMove G F S b → a = b
  | none, none, _, _ => rfl
  | none, some m, h, g => absurd ((g.2 m).2 ⟨0, by omega⟩) (h _)
  | some m, none, h, g => absurd ((h.2 m).2 ⟨0, by omega⟩) (g _)
  | some m, some n, h, g => by
    have := (g.2 m).1 ((h.2 m).2 ⟨0, by omega⟩)
    rw [dvd_small h.1 g.1 this]
theorem pap_unique {F : Fn} {p q : Pap} (h : IsPap F p) (g : IsPap F q) : p = q := by
  have e1 := step_unique h.step g.step
  have e2 : p.level = q.level := by
    rw [Bool.eq_iff_iff, h.level, g.level]
  have h2 := h.mirror
  have h3 := h.turn
  have h4 := h.glide
  have g2 := g.mirror
  have g3 := g.turn
  have g4 := g.glide
  rw [← e1] at g2 g3 g4
  rw [← e2] at g4
  obtain ⟨s1, m1, l1, t1, k1⟩ := p
  obtain ⟨s2, m2, l2, t2, k2⟩ := q
  dsimp only at e1 e2 h2 h3 h4 g2 g3 g4
  subst e1 e2
  rw [move_unique h2 g2, move_unique h3 g3]
  congr 1
  by_cases hl : l1 = true
  · rw [if_pos hl] at h4 g4
    rw [h4, g4]
  · rw [if_neg hl] at h4 g4
    exact move_unique h4 g4
theorem move_congr {G F G' F' : Fn} {S : Nat} (h : ∀ t, Sh G' F' t ↔ Sh G F t) : ∀ {m : Option Nat}, IsMove G F S m → IsMove G' F' S m
  | none, g => fun t z => g t ((h t).1 z)
  | some m, g => ⟨g.1, fun t => (h t).trans (g.2 t)⟩
/-- moved by c more -/
def plus (S c : Nat) (m : Nat) : Nat := (m + c) % S
theorem dvd_mod (S a : Nat) : (S : Int) ∣ (a : Int) - ((a % S : Nat) : Int) := ⟨(a : Int) / S, by
  rw [Int.natCast_emod]
  have := Int.mul_ediv_add_emod (a : Int) (S : Int)
  omega⟩
theorem move_plus {G F G' F' : Fn} {S c : Nat} (hS : 0 < S) (h : ∀ t : Int, Sh G' F' t ↔ Sh G F (t - (c : Int))) : ∀ {m : Option Nat}, IsMove G F S m → IsMove G' F' S (m.map (plus S c))
  | none, g => fun t z => g _ ((h t).1 z)
  | some m, g => ⟨Nat.mod_lt _ hS, fun t => by
    rw [h t, g.2]
    have e := dvd_mod S (m + c)
    show _ ↔ (S : Int) ∣ t - (((m + c) % S : Nat) : Int)
    constructor
    · intro z
      have := Int.dvd_add z e
      have e2 : t - (c : Int) - (m : Int) + (((m + c : Nat) : Int) - (((m + c) % S : Nat) : Int)) = t - (((m + c) % S : Nat) : Int) := by
        rw [Int.natCast_add]
        omega
      rw [e2] at this
      exact this
    · intro z
      have := Int.dvd_sub z e
      have e2 : t - (((m + c) % S : Nat) : Int) - (((m + c : Nat) : Int) - (((m + c) % S : Nat) : Int)) = t - (c : Int) - (m : Int) := by
        rw [Int.natCast_add]
        omega
      rw [e2] at this
      exact this⟩
/-- the same from behind: there is one just if there is one -/
theorem move_none_neg {G F G' F' : Fn} {S T : Nat} (h : ∀ t : Int, Sh G' F' t ↔ Sh G F (-t)) {m n : Option Nat} (g : IsMove G F S m) (g' : IsMove G' F' T n) : m = none ↔ n = none := by
  cases m with
  | none => cases n with
    | none => exact Iff.rfl
    | some n =>
      have := (g'.2 n).2 ⟨0, by omega⟩
      exact absurd ((h _).1 this) (g _)
  | some m => cases n with
    | none =>
      have := (g.2 m).2 ⟨0, by omega⟩
      refine absurd ((h (-(m : Int))).2 ?_) (g' _)
      rw [Int.neg_neg]
      exact this
    | some n => exact ⟨fun z => (by cases z), fun z => (by cases z)⟩
theorem step_congr {F F' : Fn} {S : Nat} (h : ∀ t, Sh F' F' t ↔ Sh F F t) (g : IsStep F S) : IsStep F' S := ⟨g.1, fun q => (h q).trans (g.2 q)⟩
/-! ### the same signs told otherwise: phi of each column -/
theorem pap_map {F F' : Fn} {p : Pap} (phi : List Nat → List Nat) (inj : ∀ x y, phi (F x) = phi (F y) → F x = F y) (injr : ∀ x y, phi (F x).reverse = phi (F y) → (F x).reverse = F y)
    (hr : ∀ x, (phi (F x)).reverse = phi (F x).reverse) (hF : ∀ x, F' x = phi (F x)) (h : IsPap F p) : IsPap F' p := by
  have a : ∀ t, Sh F' F' t ↔ Sh F F t := fun t => ⟨fun z x => inj _ _ (by rw [← hF, ← hF]; exact z x), fun z x => by rw [hF, hF, z x]⟩
  have b : ∀ t, Sh (neg F') F' t ↔ Sh (neg F) F t := fun t => ⟨fun z x => inj _ _ (by have := z x; unfold neg at this; rw [hF, hF] at this; exact this), fun z x => by have := z x; unfold neg at this ⊢; rw [hF, hF, this]⟩
  have c : ∀ t, Sh (rv (neg F')) F' t ↔ Sh (rv (neg F)) F t := fun t => ⟨fun z x => injr _ _ (by have := z x; unfold rv neg at this; rw [hF, hF, hr] at this; exact this), fun z x => by have := z x; unfold rv neg at this ⊢; rw [hF, hF, hr, this]⟩
  have d : ∀ t, Sh (rv F') F' t ↔ Sh (rv F) F t := fun t => ⟨fun z x => injr _ _ (by have := z x; unfold rv at this; rw [hF, hF, hr] at this; exact this), fun z x => by have := z x; unfold rv at this ⊢; rw [hF, hF, hr, this]⟩
  refine ⟨step_congr a h.step, move_congr b h.mirror, h.level.trans ?_, move_congr c h.turn, ?_⟩
  · constructor
    · intro z x
      have := z x
      unfold rv at this ⊢
      rw [hF, hr, this]
    · intro z x
      have := z x
      unfold rv at this ⊢
      rw [hF, hr] at this
      exact injr _ _ this
  · have := h.glide
    split
    · rename_i hl
      rw [if_pos hl] at this
      exact this
    · rename_i hl
      rw [if_neg hl] at this
      exact move_congr d this
/-! ### what follows of a paper -/
theorem lev_sh {F : Fn} (h : ∀ x, rv F x = F x) (t : Int) : Sh (rv (neg F)) F t ↔ Sh (neg F) F t := by
  have : rv (neg F) = neg F := funext fun x => h (-1 - x)
  rw [this]
theorem lev_turn {F : Fn} {p : Pap} (h : IsPap F p) (hl : p.level = true) : p.turn = p.mirror :=
  move_unique h.turn (move_congr (lev_sh (h.level.1 hl)) h.mirror)
theorem glide_half {F : Fn} {p : Pap} {g : Nat} (h : IsPap F p) (hg : p.glide = some g) : 2 * g = p.step := by
  have h1 := h.glide
  have hl : ¬ p.level = true := fun hl => by
    rw [if_pos hl, hg] at h1
    cases h1
  rw [if_neg hl, hg] at h1
  have z : Sh (rv F) F g := (h1.2 g).2 ⟨0, by omega⟩
  have z2 : Sh F F (2 * g) := fun x => by
    have a := z x
    have b := z (x + g)
    unfold rv at a b
    rw [← a, ← b, List.reverse_reverse]
    congr 1
    omega
  have d := (h.step.2 _).1 z2
  have ne : g ≠ 0 := fun e => by
    refine hl (h.level.2 fun x => ?_)
    have := z x
    rw [e] at this
    simpa using this
  have hs := h1.1
  obtain ⟨k, hk⟩ := d
  have : k = 1 := by
    by_cases k1 : k ≤ 0
    · have : (p.step : Int) * k ≤ (p.step : Int) * 0 := Int.mul_le_mul_of_nonneg_left k1 (by omega)
      omega
    · by_cases k2 : 2 ≤ k
      · have : (p.step : Int) * 2 ≤ (p.step : Int) * k := Int.mul_le_mul_of_nonneg_left k2 (by omega)
        omega
      · omega
  rw [this] at hk
  omega
/-- mirror and turn give a glide or a level -/
theorem both_glide {F : Fn} {p : Pap} {m t : Nat} (h : IsPap F p) (hm : p.mirror = some m) (ht : p.turn = some t) : p.level = true ∨ p.glide ≠ none := by
  by_cases hl : p.level = true
  · exact .inl hl
  · right
    have h1 := h.glide
    rw [if_neg hl] at h1
    intro e
    rw [e] at h1
    have a := h.mirror
    have b := h.turn
    rw [hm] at a
    rw [ht] at b
    have a1 : Sh (neg F) F m := (a.2 m).2 ⟨0, by omega⟩
    have b1 : Sh (rv (neg F)) F t := (b.2 t).2 ⟨0, by omega⟩
    refine h1 ((t : Int) - m) fun x => ?_
    have c1 := b1 x
    have c2 := a1 (-1 - (x + (t : Int)))
    unfold rv neg at c1
    unfold neg at c2
    unfold rv
    rw [← c1, ← c2]
    congr 2
    omega
theorem glide_both {F : Fn} {p : Pap} {g : Nat} (h : IsPap F p) (hg : p.glide = some g) : p.mirror = none ↔ p.turn = none := by
  have h1 := h.glide
  have hl : ¬ p.level = true := fun hl => by
    rw [if_pos hl, hg] at h1
    cases h1
  rw [if_neg hl, hg] at h1
  have z : Sh (rv F) F g := (h1.2 g).2 ⟨0, by omega⟩
  have key : ∀ y : Int, (F (y + g)).reverse = F y := z
  have key2 : ∀ y : Int, (F y).reverse = F (y - g) := fun y => by
    have := key (y - g)
    rw [← this]
    congr 2
    omega
  constructor
  · intro e
    have a := h.mirror
    rw [e] at a
    cases ht : p.turn with
    | none => rfl
    | some t =>
      have b := h.turn
      rw [ht] at b
      have b1 : Sh (rv (neg F)) F t := (b.2 t).2 ⟨0, by omega⟩
      exfalso
      refine a ((t : Int) + g) fun x => ?_
      have c1 := b1 x
      unfold rv neg at c1
      unfold neg
      rw [← c1, key2]
      congr 1
      omega
  · intro e
    have b := h.turn
    rw [e] at b
    cases hm : p.mirror with
    | none => rfl
    | some m =>
      have a := h.mirror
      rw [hm] at a
      have a1 : Sh (neg F) F m := (a.2 m).2 ⟨0, by omega⟩
      exfalso
      refine b ((m : Int) - g) fun x => ?_
      have c1 := a1 x
      unfold neg at c1
      unfold rv neg
      rw [← c1, key2]
      congr 1
      omega
/-! ### on its mirror -/
theorem app_inj {a b c d : List Nat} (h : a ++ b = c ++ d) (hl : a.length = c.length) : a = c ∧ b = d := List.append_inj h hl
/-- all columns are as long -/
def Len (F : Fn) (k : Nat) : Prop := ∀ x, (F x).length = k
theorem pap_stack {F F' : Fn} {p : Pap} {k : Nat} (hk : Len F k) (hF : ∀ x, F' x = F x ++ (F x).reverse) (h : IsPap F p) : IsPap F' ⟨p.step, p.mirror, true, p.mirror, none⟩ := by
  have e : ∀ x y, F' x = F' y ↔ F x = F y := fun x y => by
    rw [hF, hF]
    exact ⟨fun z => (app_inj z (by rw [hk, hk])).1, fun z => by rw [z]⟩
  have r : ∀ x, rv F' x = F' x := fun x => by
    unfold rv
    rw [hF, List.reverse_append, List.reverse_reverse]
  have a : ∀ t, Sh F' F' t ↔ Sh F F t := fun t => ⟨fun z x => (e _ _).1 (z x), fun z x => (e _ _).2 (z x)⟩
  have b : ∀ t, Sh (neg F') F' t ↔ Sh (neg F) F t := fun t => ⟨fun z x => (e _ _).1 (z x), fun z x => (e _ _).2 (z x)⟩
  exact ⟨step_congr a h.step, move_congr b h.mirror, ⟨fun _ => r, fun _ => rfl⟩, move_congr (fun t => (lev_sh r t).trans (b t)) h.mirror, by rw [if_pos rfl]⟩
theorem pap_moved {F F' : Fn} {p : Pap} {k h2 : Nat} (hk : Len F k) (hF : ∀ x, F' x = F x ++ (F (x + h2)).reverse) (hs : p.step = 2 * h2) (h : IsPap F p) : IsPap F' ⟨p.step, p.mirror, false, p.mirror.map (plus p.step h2), some h2⟩ := by
  have per : ∀ x : Int, F (x + 2 * h2) = F x := (h.step.2 _).2 ⟨1, by omega⟩
  have e : ∀ x y, F' x = F' y ↔ F x = F y ∧ F (x + h2) = F (y + h2) := fun x y => by
    rw [hF, hF]
    constructor
    · intro z
      have := app_inj z (by rw [hk, hk])
      exact ⟨this.1, List.reverse_inj.1 this.2⟩
    · rintro ⟨z1, z2⟩
      rw [z1, z2]
  have er : ∀ x y, (F' x).reverse = F' y ↔ F (x + h2) = F y ∧ F x = F (y + h2) := fun x y => by
    rw [hF, hF, List.reverse_append, List.reverse_reverse]
    constructor
    · intro z
      have := app_inj z (by rw [hk, hk])
      exact ⟨this.1, List.reverse_inj.1 this.2⟩
    · rintro ⟨z1, z2⟩
      rw [z1, z2]
  have a : ∀ t, Sh F' F' t ↔ Sh F F t := fun t => ⟨fun z x => ((e _ _).1 (z x)).1, fun z x => (e _ _).2 ⟨z x, by
    have := z (x + h2)
    rw [← this]
    congr 1
    omega⟩⟩
  have b : ∀ t, Sh (neg F') F' t ↔ Sh (neg F) F t := fun t => ⟨fun z x => ((e _ _).1 (z x)).1, fun z x => (e _ _).2 ⟨z x, by
    have := z (x + h2)
    unfold neg at this
    rw [← this, ← per (-1 - (x + h2 + t))]
    congr 1
    omega⟩⟩
  have c : ∀ t : Int, Sh (rv (neg F')) F' t ↔ Sh (neg F) F (t - h2) := fun t => by
    constructor
    · intro z x
      have := ((er _ _).1 (z x)).1
      unfold neg
      rw [← this]
      congr 1
      omega
    · intro z x
      refine (er _ _).2 ⟨?_, ?_⟩
      · have := z x
        unfold neg at this
        rw [← this]
        congr 1
        omega
      · have := z (x + h2)
        unfold neg at this
        rw [← this]
        congr 1
        omega
  refine ⟨step_congr a h.step, move_congr b h.mirror, ⟨fun z => (by cases z), fun z => ?_⟩, move_plus h.step.1 c h.mirror, ?_⟩
  · exfalso
    have : Sh F F h2 := fun x => ((er _ _).1 (z x)).1
    have d := (h.step.2 _).1 this
    have h0 := h.step.1
    have := dvd_small (S := p.step) (m := h2) (n := 0) (by omega) (by omega) (by simpa using d)
    omega
  · rw [if_neg (by simp)]
    have h0 := h.step.1
    refine ⟨by show h2 < p.step; omega, fun t => ?_⟩
    constructor
    · intro z
      have z2 : Sh F F (t + h2) := fun x => by
        have := ((er _ _).1 (z x)).1
        rw [← this]
        congr 1
        omega
      have d := (h.step.2 _).1 z2
      have d2 : ((p.step : Nat) : Int) ∣ ((p.step : Nat) : Int) := Int.dvd_refl _
      have := Int.dvd_sub d d2
      have e2 : t + (h2 : Int) - (p.step : Int) = t - (h2 : Int) := by omega
      rw [e2] at this
      exact this
    · intro d x
      have d2 := Int.dvd_add d (Int.dvd_refl (p.step : Int))
      have e2 : t - (h2 : Int) + (p.step : Int) = t + (h2 : Int) := by omega
      rw [e2] at d2
      have z1 := (h.step.2 _).2 d
      have z2 := (h.step.2 _).2 d2
      refine (er _ _).2 ⟨?_, ?_⟩
      · have := z2 x
        rw [← this]
        congr 1
        omega
      · have := z1 (x + h2)
        rw [← this]
        congr 1
        omega
theorem pap_beside {F F' : Fn} {p q : Pap} {k : Nat} (hk : Len F k) (hF : ∀ x, F' x = F x ++ (F (-1 - x)).reverse) (h : IsPap F p) (g : IsPap F' q) :
    q.step = p.step ∧ q.turn = some 0 ∧ q.mirror = (match p.mirror with
      | none => none
      | some m => if 2 * m % p.step = 0 then some m else none) := by
  have e : ∀ x y, F' x = F' y ↔ F x = F y ∧ F (-1 - x) = F (-1 - y) := fun x y => by
    rw [hF, hF]
    constructor
    · intro z
      have := app_inj z (by rw [hk, hk])
      exact ⟨this.1, List.reverse_inj.1 this.2⟩
    · rintro ⟨z1, z2⟩
      rw [z1, z2]
  have er : ∀ x y, (F' x).reverse = F' y ↔ F (-1 - x) = F y ∧ F x = F (-1 - y) := fun x y => by
    rw [hF, hF, List.reverse_append, List.reverse_reverse]
    constructor
    · intro z
      have := app_inj z (by rw [hk, hk])
      exact ⟨this.1, List.reverse_inj.1 this.2⟩
    · rintro ⟨z1, z2⟩
      rw [z1, z2]
  have a : ∀ t, Sh F' F' t ↔ Sh F F t := fun t => ⟨fun z x => ((e _ _).1 (z x)).1, fun z x => (e _ _).2 ⟨z x, by
    have := z (-1 - (x + t))
    rw [← this]
    congr 1
    omega⟩⟩
  have st := step_unique g.step (step_congr a h.step)
  refine ⟨st, ?_, ?_⟩
  · refine move_unique g.turn ?_
    rw [st]
    refine ⟨h.step.1, fun t => ?_⟩
    rw [show t - ((0 : Nat) : Int) = t by omega, ← h.step.2]
    constructor
    · intro z x
      have := ((er _ _).1 (z x)).1
      rw [← this]
      congr 1
      omega
    · intro z x
      refine (er _ _).2 ⟨?_, ?_⟩
      · have := z x
        rw [← this]
        congr 1
        omega
      · have := z (-1 - (x + t))
        rw [show -1 - (x + t) + t = -1 - x by omega] at this
        exact this.symm
  · have c : ∀ t : Int, Sh (neg F') F' t ↔ Sh (neg F) F t ∧ Sh (neg F) F (-t) := fun t => by
      constructor
      · intro z
        refine ⟨fun x => ((e _ _).1 (z x)).1, fun x => ?_⟩
        have := ((e _ _).1 (z (-1 - x))).2
        unfold neg
        rw [show -1 - (-1 - x) = x by omega] at this
        rw [← this]
        congr 1
        omega
      · rintro ⟨z1, z2⟩ x
        refine (e _ _).2 ⟨z1 x, ?_⟩
        have := z2 (-1 - x)
        unfold neg at this
        rw [← this]
        congr 1
        omega
    have gm := g.mirror
    rw [st] at gm
    have hm := h.mirror
    cases hp : p.mirror with
    | none =>
      rw [hp] at hm
      refine move_unique gm ?_
      exact fun t z => hm t ((c t).1 z).1
    | some m =>
      rw [hp] at hm
      refine move_unique gm ?_
      show IsMove _ _ _ (if 2 * m % p.step = 0 then some m else none)
      by_cases h2 : 2 * m % p.step = 0
      · rw [if_pos h2]
        refine ⟨hm.1, fun t => ?_⟩
        rw [c, hm.2, hm.2]
        constructor
        · exact fun z => z.1
        · intro z
          refine ⟨z, ?_⟩
          have d : (p.step : Int) ∣ ((2 * m : Nat) : Int) := Int.natCast_dvd_natCast.2 (Nat.dvd_of_mod_eq_zero h2)
          have := Int.dvd_sub (Int.dvd_neg.2 z) d
          have e2 : -(t - (m : Int)) - ((2 * m : Nat) : Int) = -t - (m : Int) := by omega
          rw [e2] at this
          exact this
      · rw [if_neg h2]
        intro t z
        have := (c t).1 z
        rw [hm.2, hm.2] at this
        have d := Int.dvd_add this.1 this.2
        have e2 : t - (m : Int) + (-t - (m : Int)) = -((2 * m : Nat) : Int) := by omega
        rw [e2, Int.dvd_neg] at d
        exact h2 (Nat.mod_eq_zero_of_dvd (Int.natCast_dvd_natCast.1 d))
/-! ### from above, from behind, moved -/
theorem pap_over {F F' : Fn} {p : Pap} (hF : ∀ x, F' x = (F x).reverse) (h : IsPap F p) : IsPap F' p :=
  pap_map List.reverse (fun x y z => List.reverse_inj.1 z) (fun x y z => by rw [List.reverse_reverse] at z; rw [z, List.reverse_reverse]) (fun x => rfl) hF h
theorem pap_across {F F' : Fn} {p q : Pap} (hF : ∀ x, F' x = F (-1 - x)) (h : IsPap F p) (g : IsPap F' q) : (p.mirror = none ↔ q.mirror = none) ∧ p.level = q.level ∧ (p.turn = none ↔ q.turn = none) ∧ (p.glide = none ↔ q.glide = none) := by
  have n1 : ∀ t : Int, Sh (neg F') F' t ↔ Sh (neg F) F (-t) := fun t => by
    constructor
    · intro z x
      have := z (-1 - x)
      unfold neg at this ⊢
      rw [hF, hF] at this
      rw [show -1 - (-1 - x) = x by omega] at this
      rw [← this]
      congr 1
      omega
    · intro z x
      have := z (-1 - x)
      unfold neg at this ⊢
      rw [hF, hF, ← this]
      congr 1
      omega
  have n2 : ∀ t : Int, Sh (rv (neg F')) F' t ↔ Sh (rv (neg F)) F (-t) := fun t => by
    constructor
    · intro z x
      have := z (-1 - x)
      unfold rv neg at this ⊢
      rw [hF, hF] at this
      rw [show -1 - (-1 - x) = x by omega] at this
      rw [← this]
      congr 2
      omega
    · intro z x
      have := z (-1 - x)
      unfold rv neg at this ⊢
      rw [hF, hF, ← this]
      congr 2
      omega
  have n3 : ∀ t : Int, Sh (rv F') F' t ↔ Sh (rv F) F (-t) := fun t => by
    constructor
    · intro z x
      have := z (-1 - x)
      unfold rv at this ⊢
      rw [hF, hF] at this
      rw [show -1 - (-1 - x) = x by omega] at this
      rw [← this]
      congr 2
      omega
    · intro z x
      have := z (-1 - x)
      unfold rv at this ⊢
      rw [hF, hF, ← this]
      congr 2
      omega
  have lv : p.level = q.level := by
    rw [Bool.eq_iff_iff, h.level, g.level]
    constructor
    · intro z x
      unfold rv
      rw [hF]
      exact z _
    · intro z x
      have := z (-1 - x)
      unfold rv at this ⊢
      rw [hF] at this
      rw [show -1 - (-1 - x) = x by omega] at this
      exact this
  refine ⟨move_none_neg n1 h.mirror g.mirror, lv, move_none_neg n2 h.turn g.turn, ?_⟩
  have a := h.glide
  have b := g.glide
  rw [← lv] at b
  by_cases hl : p.level = true
  · rw [if_pos hl] at a b
    rw [a, b]
  · rw [if_neg hl] at a b
    exact move_none_neg n3 a b
theorem pap_shift {F F' : Fn} {p : Pap} {b : Nat} (hF : ∀ x, F' x = F (x + b)) (h : IsPap F p) : IsPap F' ⟨p.step, p.mirror.map (plus p.step (2 * b)), p.level, p.turn.map (plus p.step (2 * b)), p.glide⟩ := by
  have s : ∀ t : Int, Sh F' F' t ↔ Sh F F t := fun t => by
    constructor
    · intro z x
      have := z (x - b)
      rw [hF, hF] at this
      rw [show x - (b : Int) + b = x by omega] at this
      rw [← this]
      congr 1
      omega
    · intro z x
      have := z (x + b)
      rw [hF, hF, ← this]
      congr 1
      omega
  have n1 : ∀ t : Int, Sh (neg F') F' t ↔ Sh (neg F) F (t - ((2 * b : Nat) : Int)) := fun t => by
    constructor
    · intro z x
      have := z (x - b)
      unfold neg at this ⊢
      rw [hF, hF] at this
      rw [show x - (b : Int) + b = x by omega] at this
      rw [← this]
      congr 1
      omega
    · intro z x
      have := z (x + b)
      unfold neg at this ⊢
      rw [hF, hF, ← this]
      congr 1
      omega
  have n2 : ∀ t : Int, Sh (rv (neg F')) F' t ↔ Sh (rv (neg F)) F (t - ((2 * b : Nat) : Int)) := fun t => by
    constructor
    · intro z x
      have := z (x - b)
      unfold rv neg at this ⊢
      rw [hF, hF] at this
      rw [show x - (b : Int) + b = x by omega] at this
      rw [← this]
      congr 2
      omega
    · intro z x
      have := z (x + b)
      unfold rv neg at this ⊢
      rw [hF, hF, ← this]
      congr 2
      omega
  have n3 : ∀ t : Int, Sh (rv F') F' t ↔ Sh (rv F) F t := fun t => by
    constructor
    · intro z x
      have := z (x - b)
      unfold rv at this ⊢
      rw [hF, hF] at this
      rw [show x - (b : Int) + b = x by omega] at this
      rw [← this]
      congr 2
      omega
    · intro z x
      have := z (x + b)
      unfold rv at this ⊢
      rw [hF, hF, ← this]
      congr 2
      omega
  refine ⟨step_congr s h.step, move_plus h.step.1 n1 h.mirror, h.level.trans ?_, move_plus h.step.1 n2 h.turn, ?_⟩
  · constructor
    · intro z x
      unfold rv
      rw [hF]
      exact z _
    · intro z x
      have := z (x - b)
      unfold rv at this ⊢
      rw [hF] at this
      rw [show x - (b : Int) + b = x by omega] at this
      exact this
  · have := h.glide
    split
    · rename_i hl
      rw [if_pos hl] at this
      exact this
    · rename_i hl
      rw [if_neg hl] at this
      exact move_congr n3 this
/-! ### the least step -/
theorem sh_add {F : Fn} {a b : Int} (h : Sh F F a) (g : Sh F F b) : Sh F F (a + b) := fun x => by
  have h1 := h (x + b)
  rw [← g x, ← h1]
  congr 1
  omega
theorem sh_neg {F : Fn} {a : Int} (h : Sh F F a) : Sh F F (-a) := fun x => by
  have := h (x + -a)
  rw [← this]
  congr 1
  omega
theorem sh_mul {F : Fn} {a : Int} (h : Sh F F a) : ∀ n : Nat, Sh F F (n * a)
  | 0 => fun x => by
    congr 1
    omega
  | n + 1 => by
    have := sh_add (sh_mul h n) h
    have e : ((n + 1 : Nat) : Int) * a = (n : Int) * a + a := by rw [Int.natCast_add, Int.add_mul]; omega
    rw [e]
    exact this
theorem sh_gcd {F : Fn} (m n : Nat) : Sh F F m → Sh F F n → Sh F F (Nat.gcd m n : Nat) := by
  induction m, n using Nat.gcd.induction with
  | H0 n =>
    intro _ h
    rw [Nat.gcd_zero_left]
    exact h
  | H1 m n hm ih =>
    intro h g
    rw [Nat.gcd_rec]
    refine ih ?_ h
    have := sh_add g (sh_neg (sh_mul h (n / m)))
    have e : (n : Int) + -(((n / m : Nat) : Int) * (m : Int)) = ((n % m : Nat) : Int) := by
      have := Nat.div_add_mod n m
      have e2 : ((m * (n / m) + n % m : Nat) : Int) = (n : Int) := by rw [this]
      rw [Int.natCast_add, Int.natCast_mul] at e2
      have e3 : (m : Int) * ((n / m : Nat) : Int) = ((n / m : Nat) : Int) * (m : Int) := Int.mul_comm _ _
      omega
    rw [e] at this
    exact this
/-- the least divisor of the width by which it can be moved onto itself is the step -/
theorem step_of {F : Fn} {w S : Nat} (hw : 0 < w) (hp : Sh F F w) (hS : 0 < S) (hd : S ∣ w) (hs : Sh F F S) (least : ∀ d, 0 < d → d < S → d ∣ w → ¬ Sh F F d) : IsStep F S := by
  refine ⟨hS, fun q => ⟨fun z => ?_, ?_⟩⟩
  · have zn : Sh F F (q.natAbs : Nat) := by
      rcases Int.natAbs_eq q with e | e
      · rw [← e]; exact z
      · have : ((q.natAbs : Nat) : Int) = -q := by omega
        rw [this]
        exact sh_neg z
    have g := sh_gcd S q.natAbs hs zn
    have g0 : 0 < Nat.gcd S q.natAbs := Nat.gcd_pos_of_pos_left _ hS
    have gl : Nat.gcd S q.natAbs ≤ S := Nat.gcd_le_left _ hS
    have gd : Nat.gcd S q.natAbs ∣ w := Nat.dvd_trans (Nat.gcd_dvd_left _ _) hd
    have : Nat.gcd S q.natAbs = S := by
      by_cases hlt : Nat.gcd S q.natAbs < S
      · exact absurd g (least _ g0 hlt gd)
      · omega
    have d : S ∣ q.natAbs := by
      rw [← this]
      exact Nat.gcd_dvd_right _ _
    exact Int.ofNat_dvd_left.2 d
  · rintro ⟨k, rfl⟩
    rcases Int.natAbs_eq k with e | e
    · rw [e, Int.mul_comm]
      exact sh_mul hs _
    · rw [e, Int.mul_neg, Int.mul_comm]
      exact sh_neg (sh_mul hs _)
/-- the least move is the move -/
theorem move_some {G F : Fn} {S m : Nat} (h : IsStep F S) (hm : m < S) (z : Sh G F m) : IsMove G F S (some m) := ⟨hm, fun t => by
  rw [← h.2]
  constructor
  · intro y x
    have a := z (x + (t - m))
    rw [← a, ← y x]
    congr 1
    omega
  · intro y x
    have a := z (x + (t - m))
    rw [← y x, ← a]
    congr 1
    omega⟩
theorem move_none {G F : Fn} {S : Nat} (h : IsStep F S) (z : ∀ m : Nat, m < S → ¬ Sh G F m) : IsMove G F S none := fun t y => by
  have h0 := h.1
  have e1 : 0 ≤ t % (S : Int) := Int.emod_nonneg _ (by omega)
  have e2 : t % (S : Int) < S := Int.emod_lt_of_pos _ (by omega)
  refine z (t % (S : Int)).toNat (by omega) ?_
  have e3 : (((t % (S : Int)).toNat : Nat) : Int) = t % (S : Int) := Int.toNat_of_nonneg e1
  rw [e3]
  have p : Sh F F (t % (S : Int) - t) := (h.2 _).2 ⟨-(t / S), by
    have := Int.mul_ediv_add_emod t S
    rw [Int.mul_neg]
    omega⟩
  intro x
  have a := y (x + (t % (S : Int) - t))
  rw [p x] at a
  rw [← a]
  congr 1
  omega
end Pat
end

section
/-! K59B: rows of signs and their functions. Plain Lean. -/
set_option autoImplicit false
set_option linter.all false
set_option maxRecDepth 100000
set_option maxHeartbeats 4000000
namespace Pat
abbrev Rows := List (List Nat)
/-- k rows of w signs -/
structure Ok (k w : Nat) (A : Rows) : Prop where
  len : A.length = k
  row : ∀ r ∈ A, r.length = w
  sign : ∀ r ∈ A, ∀ c ∈ r, c = 35 ∨ c = 46
  k1 : 1 ≤ k
  k6 : k ≤ 6
  w1 : 1 ≤ w
  w16 : w ≤ 16
def fnw (w : Nat) (A : Rows) : Fn := fun x => A.map fun r => r.getD (x % (w : Int)).toNat 0
theorem fnw_len {w : Nat} {A : Rows} (x : Int) : (fnw w A x).length = A.length := List.length_map ..
theorem fnw_per {w : Nat} {A : Rows} : Sh (fnw w A) (fnw w A) w := fun x => by
  unfold fnw
  rw [Int.add_emod_right]
theorem getD_ext {p q : List Nat} (hl : p.length = q.length) (h : ∀ i, i < p.length → p.getD i 0 = q.getD i 0) : p = q := by
  refine List.ext_getElem hl fun i h1 h2 => ?_
  have := h i h1
  rw [List.getD_eq_getElem?_getD, List.getD_eq_getElem?_getD, List.getElem?_eq_getElem h1, List.getElem?_eq_getElem h2] at this
  exact this
theorem mod_small {w i : Nat} (h : i < w) : ((i : Int) % (w : Int)).toNat = i := by
  rw [← Int.natCast_emod, Int.toNat_natCast, Nat.mod_eq_of_lt h]
theorem fnw_inj {w : Nat} : ∀ {A B : Rows}, (∀ r ∈ A, r.length = w) → (∀ r ∈ B, r.length = w) → (∀ x, fnw w A x = fnw w B x) → A = B
  | [], [], _, _, _ => rfl
  | [], b :: B, _, _, h => by
    have := congrArg List.length (h 0)
    rw [fnw_len, fnw_len] at this
    simp at this
  | a :: A, [], _, _, h => by
    have := congrArg List.length (h 0)
    rw [fnw_len, fnw_len] at this
    simp at this
  | a :: A, b :: B, hA, hB, h => by
    have h1 : ∀ x : Int, a.getD (x % (w : Int)).toNat 0 = b.getD (x % (w : Int)).toNat 0 ∧ fnw w A x = fnw w B x := fun x => by
      have := h x
      unfold fnw at this
      rw [List.map_cons, List.map_cons, List.cons.injEq] at this
      exact this
    have la := hA a List.mem_cons_self
    have lb := hB b List.mem_cons_self
    have e1 : a = b := getD_ext (by rw [la, lb]) fun i hi => by
      rw [la] at hi
      have := (h1 i).1
      rw [mod_small hi] at this
      exact this
    rw [e1, fnw_inj (fun r hr => hA r (List.mem_cons_of_mem _ hr)) (fun r hr => hB r (List.mem_cons_of_mem _ hr)) fun x => (h1 x).2]
theorem emod_lt {w : Nat} (hw : 0 < w) (x : Int) : (x % (w : Int)).toNat < w ∧ (((x % (w : Int)).toNat : Nat) : Int) = x % (w : Int) := by
  have e1 : 0 ≤ x % (w : Int) := Int.emod_nonneg _ (by omega)
  have e2 : x % (w : Int) < w := Int.emod_lt_of_pos _ (by omega)
  omega
def shR (b : Nat) (r : List Nat) : List Nat := r.drop (b % r.length) ++ r.take (b % r.length)
def shN (A : Rows) (b : Nat) : Rows := A.map (shR b)
theorem app_getD' {l r : List Nat} {i : Nat} : (l ++ r).getD i 0 = if i < l.length then l.getD i 0 else r.getD (i - l.length) 0 := by
  rw [List.getD_eq_getElem?_getD, List.getD_eq_getElem?_getD, List.getD_eq_getElem?_getD, List.getElem?_append]
  split <;> rfl
theorem drop_getD {l : List Nat} {b i : Nat} : (l.drop b).getD i 0 = l.getD (b + i) 0 := by
  rw [List.getD_eq_getElem?_getD, List.getD_eq_getElem?_getD, List.getElem?_drop]
theorem take_getD {l : List Nat} {b i : Nat} (h : i < b) : (l.take b).getD i 0 = l.getD i 0 := by
  rw [List.getD_eq_getElem?_getD, List.getD_eq_getElem?_getD, List.getElem?_take, if_pos h]
theorem shR_getD {w b i : Nat} {r : List Nat} (hr : r.length = w) (hi : i < w) : (shR b r).getD i 0 = r.getD ((i + b) % w) 0 := by
  unfold shR
  rw [hr]
  have hb : b % w < w := Nat.mod_lt _ (by omega)
  have e : (i + b) % w = (i + b % w) % w := by rw [Nat.add_mod_mod]
  rw [e]
  generalize b % w = c at hb
  rw [app_getD', List.length_drop, hr]
  by_cases h : i < w - c
  · rw [if_pos h, drop_getD, Nat.mod_eq_of_lt (by omega), Nat.add_comm]
  · rw [if_neg h, take_getD (by omega)]
    have : (i + c) % w = i + c - w := by
      rw [Nat.mod_eq_sub_mod (by omega), Nat.mod_eq_of_lt (by omega)]
    rw [this]
    congr 1
    omega
theorem shR_length {b : Nat} {r : List Nat} (h : 0 < r.length) : (shR b r).length = r.length := by
  unfold shR
  have := Nat.mod_lt b h
  rw [List.length_append, List.length_drop, List.length_take]
  omega
theorem map_congr' {α β : Type} {f g : α → β} {l : List α} (h : ∀ x ∈ l, f x = g x) : l.map f = l.map g := List.map_congr_left h
theorem fn_shift {w b : Nat} {A : Rows} (hw : 0 < w) (hA : ∀ r ∈ A, r.length = w) (x : Int) : fnw w (shN A b) x = fnw w A (x + b) := by
  unfold fnw shN
  rw [List.map_map]
  refine map_congr' fun r hr => ?_
  obtain ⟨h1, h2⟩ := emod_lt hw x
  show (shR b r).getD _ 0 = _
  rw [shR_getD (hA r hr) h1]
  congr 1
  have : (((x % (w : Int)).toNat + b) % w : Nat) = ((x + (b : Int)) % (w : Int)).toNat := by
    have e : ((((x % (w : Int)).toNat + b) % w : Nat) : Int) = (x + (b : Int)) % (w : Int) := by
      rw [Int.natCast_emod, Int.natCast_add, h2, Int.emod_add_emod]
    omega
  exact this
def acN (A : Rows) : Rows := A.map List.reverse
theorem fn_across {w : Nat} {A : Rows} (hw : 0 < w) (hA : ∀ r ∈ A, r.length = w) (x : Int) : fnw w (acN A) x = fnw w A (-1 - x) := by
  unfold fnw acN
  rw [List.map_map]
  refine map_congr' fun r hr => ?_
  obtain ⟨h1, h2⟩ := emod_lt hw x
  have hl := hA r hr
  show r.reverse.getD _ 0 = _
  rw [List.getD_eq_getElem?_getD, List.getElem?_reverse (by omega), ← List.getD_eq_getElem?_getD]
  congr 1
  have : (-1 - x) % (w : Int) = (w : Int) - 1 - x % (w : Int) := by
    have e := Int.mul_ediv_add_emod x (w : Int)
    have e2 : -1 - x = ((w : Int) - 1 - x % (w : Int)) + (w : Int) * (-(x / (w : Int)) - 1) := by
      rw [Int.mul_sub, Int.mul_neg]
      omega
    rw [e2, Int.add_mul_emod_self_left]
    exact Int.emod_eq_of_lt (by omega) (by omega)
  rw [this, hl]
  omega
theorem fn_over {w : Nat} {A : Rows} (x : Int) : fnw w A.reverse x = (fnw w A x).reverse := by
  unfold fnw
  rw [List.map_reverse]
theorem fn_app {w : Nat} {A B : Rows} (x : Int) : fnw w (A ++ B) x = fnw w A x ++ fnw w B x := by
  unfold fnw
  rw [List.map_append]
def twN (A : Rows) : Rows := A.map fun r => r ++ r
theorem fn_twice {w : Nat} {A : Rows} (hw : 0 < w) (hA : ∀ r ∈ A, r.length = w) (x : Int) : fnw (w + w) (twN A) x = fnw w A x := by
  unfold fnw twN
  rw [List.map_map]
  refine map_congr' fun r hr => ?_
  have hl := hA r hr
  obtain ⟨h1, h2⟩ := emod_lt (w := w + w) (by omega) x
  obtain ⟨h3, h4⟩ := emod_lt hw x
  show (r ++ r).getD _ 0 = _
  have e : x % (w : Int) = (x % ((w + w : Nat) : Int)) % (w : Int) := by
    rw [Int.emod_emod_of_dvd]
    exact ⟨2, by rw [Int.natCast_add]; omega⟩
  rw [app_getD', hl]
  generalize (x % ((w + w : Nat) : Int)).toNat = i at h1 h2
  rw [← h2] at e
  by_cases h : i < w
  · rw [if_pos h, e, mod_small h]
  · rw [if_neg h, e]
    have : ((i : Int) % (w : Int)).toNat = i - w := by
      rw [← Int.natCast_emod, Int.toNat_natCast, Nat.mod_eq_sub_mod (by omega), Nat.mod_eq_of_lt (by omega)]
    rw [this]
def stN (A : Rows) (S : Nat) : Rows := A.map fun r => r.take S
theorem fn_short {w S : Nat} {A : Rows} (hS : 0 < S) (hSw : S ≤ w) (hA : ∀ r ∈ A, r.length = w) (hp : IsStep (fnw w A) S) (x : Int) : fnw S (stN A S) x = fnw w A x := by
  obtain ⟨h1, h2⟩ := emod_lt hS x
  have e : fnw w A x = fnw w A (x % (S : Int)) := by
    have : Sh (fnw w A) (fnw w A) (x % (S : Int) - x) := (hp.2 _).2 ⟨-(x / S), by
      have := Int.mul_ediv_add_emod x S
      rw [Int.mul_neg]
      omega⟩
    rw [← this x]
    congr 1
    omega
  rw [e]
  unfold fnw stN
  rw [List.map_map]
  refine map_congr' fun r hr => ?_
  show (r.take S).getD _ 0 = _
  rw [take_getD h1]
  congr 1
  rw [← h2, mod_small (by omega), Int.toNat_natCast]
def flip (c : Nat) : Nat := if c = 35 then 46 else 35
def flN (A : Rows) : Rows := A.map fun r => r.map flip
theorem fn_flip {w : Nat} {A : Rows} (hw : 0 < w) (hA : ∀ r ∈ A, r.length = w) (x : Int) : fnw w (flN A) x = (fnw w A x).map flip := by
  unfold fnw flN
  rw [List.map_map, List.map_map]
  refine map_congr' fun r hr => ?_
  have hl := hA r hr
  obtain ⟨h1, h2⟩ := emod_lt hw x
  show (r.map flip).getD _ 0 = flip (r.getD _ 0)
  rw [List.getD_eq_getElem?_getD, List.getD_eq_getElem?_getD, List.getElem?_map, List.getElem?_eq_getElem (by omega)]
  rfl
def thN (A : Rows) : Rows := A.flatMap fun r => [r, r]
def dbl (c : List Nat) : List Nat := c.flatMap fun a => [a, a]
theorem fn_thick {w : Nat} {A : Rows} (x : Int) : fnw w (thN A) x = dbl (fnw w A x) := by
  unfold fnw thN dbl
  induction A with
  | nil => rfl
  | cons r A ih =>
    rw [List.flatMap_cons, List.map_append, List.map_cons (l := A), List.flatMap_cons, ih]
    rfl
theorem dbl_inj : ∀ {a b : List Nat}, dbl a = dbl b → a = b
  | [], [], _ => rfl
  | [], _ :: _, h => by cases h
  | _ :: _, [], h => by cases h
  | x :: a, y :: b, h => by
    have h2 : x :: x :: dbl a = y :: y :: dbl b := h
    rw [List.cons.injEq, List.cons.injEq] at h2
    rw [h2.1, dbl_inj h2.2.2]
theorem dbl_app (a b : List Nat) : dbl (a ++ b) = dbl a ++ dbl b := by
  unfold dbl
  rw [List.flatMap_append]
theorem dbl_rev : ∀ (a : List Nat), (dbl a).reverse = dbl a.reverse
  | [] => rfl
  | x :: a => by
    show (x :: x :: dbl a).reverse = dbl (x :: a).reverse
    rw [List.reverse_cons, List.reverse_cons, List.reverse_cons, dbl_app, dbl_rev a]
    show _ = dbl a.reverse ++ [x, x]
    rw [List.append_assoc]
    rfl
/-! ### the least of a row's numbers of a kind -/
theorem head_least {P : Nat → Bool} : ∀ (n lo : Nat), (∃ k, lo ≤ k ∧ k < lo + n ∧ P k = true) → ∃ m r, (List.range' lo n).filter P = m :: r ∧ lo ≤ m ∧ m < lo + n ∧ P m = true ∧ ∀ j, lo ≤ j → j < m → P j = false
  | 0, lo, ⟨k, h1, h2, _⟩ => by omega
  | n + 1, lo, ⟨k, h1, h2, h3⟩ => by
    rw [List.range'_succ]
    cases hp : P lo with
    | true =>
      rw [List.filter_cons_of_pos hp]
      exact ⟨lo, _, rfl, Nat.le_refl _, by omega, hp, fun j a b => by omega⟩
    | false =>
      rw [List.filter_cons_of_neg (by rw [hp]; exact Bool.false_ne_true)]
      have hk : k ≠ lo := fun e => by
        rw [e, hp] at h3
        cases h3
      obtain ⟨m, r, e, a, b, c, d⟩ := head_least n (lo + 1) ⟨k, by omega, by omega, h3⟩
      refine ⟨m, r, e, by omega, by omega, c, fun j j1 j2 => ?_⟩
      by_cases hj : j = lo
      · rw [hj, hp]
      · exact d j (by omega) j2
theorem filter_none {P : Nat → Bool} {n lo : Nat} (h : (List.range' lo n).filter P = []) : ∀ j, lo ≤ j → j < lo + n → P j = false := fun j a b => by
  have := List.filter_eq_nil_iff.1 h j (by rw [List.mem_range'_1]; omega)
  simpa using this
/-! ### the program's papers -/
def isStepB (w : Nat) (A : Rows) (b : Nat) : Bool := w % b == 0 && shN A b == A
def stepL (w : Nat) (A : Rows) : List Nat := (List.range' 1 w).filter (isStepB w A)
def stepN (w : Nat) (A : Rows) : Nat := (stepL w A).getD 0 0
def fits (T A : Rows) (S : Nat) : List Nat := (List.range' 0 S).filter fun b => shN T b == A
def moveN (T A : Rows) (S : Nat) : Option Nat := (fits T A S).head?
def papN (w : Nat) (A : Rows) : Pap :=
  ⟨stepN w A, moveN (acN A) A (stepN w A), A.reverse == A, moveN (acN A).reverse A (stepN w A), if (A.reverse == A) = true then none else moveN A.reverse A (stepN w A)⟩
section
variable {k w : Nat} {A : Rows}
theorem Ok.w0 (o : Ok k w A) : 0 < w := o.w1
theorem ok_sh (o : Ok k w A) (b : Nat) : Ok k w (shN A b) := ⟨by unfold shN; rw [List.length_map, o.len], fun r hr => by
    obtain ⟨s, hs, rfl⟩ := List.mem_map.1 hr
    have := o.row s hs
    have := o.w1
    rw [shR_length (by omega), o.row s hs], fun r hr c hc => by
    obtain ⟨s, hs, rfl⟩ := List.mem_map.1 hr
    rcases List.mem_append.1 hc with h | h
    · exact o.sign s hs c (List.mem_of_mem_drop h)
    · exact o.sign s hs c (List.mem_of_mem_take h), o.k1, o.k6, o.w1, o.w16⟩
theorem ok_ac (o : Ok k w A) : Ok k w (acN A) := ⟨by unfold acN; rw [List.length_map, o.len], fun r hr => by
    obtain ⟨s, hs, rfl⟩ := List.mem_map.1 hr
    rw [List.length_reverse, o.row s hs], fun r hr c hc => by
    obtain ⟨s, hs, rfl⟩ := List.mem_map.1 hr
    exact o.sign s hs c (List.mem_reverse.1 hc), o.k1, o.k6, o.w1, o.w16⟩
theorem ok_ov (o : Ok k w A) : Ok k w A.reverse := ⟨by rw [List.length_reverse, o.len], fun r hr => o.row r (List.mem_reverse.1 hr), fun r hr => o.sign r (List.mem_reverse.1 hr), o.k1, o.k6, o.w1, o.w16⟩
theorem ok_app {B : Rows} (o : Ok k w A) (o2 : Ok k w B) (h : k + k ≤ 6) : Ok (k + k) w (A ++ B) := ⟨by rw [List.length_append, o.len, o2.len], fun r hr => (List.mem_append.1 hr).elim (o.row r) (o2.row r), fun r hr => (List.mem_append.1 hr).elim (o.sign r) (o2.sign r), by have := o.k1; omega, h, o.w1, o.w16⟩
theorem ok_tw (o : Ok k w A) (h : w ≤ 8) : Ok k (w + w) (twN A) := ⟨by unfold twN; rw [List.length_map, o.len], fun r hr => by
    obtain ⟨s, hs, rfl⟩ := List.mem_map.1 hr
    rw [List.length_append, o.row s hs], fun r hr c hc => by
    obtain ⟨s, hs, rfl⟩ := List.mem_map.1 hr
    exact (List.mem_append.1 hc).elim (o.sign s hs c) (o.sign s hs c), o.k1, o.k6, by have := o.w1; omega, by omega⟩
theorem ok_st (o : Ok k w A) {S : Nat} (h0 : 0 < S) (h : S ≤ w) : Ok k S (stN A S) := ⟨by unfold stN; rw [List.length_map, o.len], fun r hr => by
    obtain ⟨s, hs, rfl⟩ := List.mem_map.1 hr
    have := o.row s hs
    rw [List.length_take]
    omega, fun r hr c hc => by
    obtain ⟨s, hs, rfl⟩ := List.mem_map.1 hr
    exact o.sign s hs c (List.mem_of_mem_take hc), o.k1, o.k6, h0, by have := o.w16; omega⟩
theorem flip_sign {c : Nat} (h : c = 35 ∨ c = 46) : flip c = 35 ∨ flip c = 46 := by
  rcases h with rfl | rfl
  · exact .inr rfl
  · exact .inl rfl
theorem ok_fl (o : Ok k w A) : Ok k w (flN A) := ⟨by unfold flN; rw [List.length_map, o.len], fun r hr => by
    obtain ⟨s, hs, rfl⟩ := List.mem_map.1 hr
    rw [List.length_map, o.row s hs], fun r hr c hc => by
    obtain ⟨s, hs, rfl⟩ := List.mem_map.1 hr
    obtain ⟨d, hd, rfl⟩ := List.mem_map.1 hc
    exact flip_sign (o.sign s hs d hd), o.k1, o.k6, o.w1, o.w16⟩
theorem thN_len : ∀ (A : Rows), (thN A).length = A.length + A.length
  | [] => rfl
  | r :: A => by
    show (r :: r :: thN A).length = _
    rw [List.length_cons, List.length_cons, thN_len A, List.length_cons]
    omega
theorem thN_mem {r : List Nat} : r ∈ thN A ↔ r ∈ A := by
  unfold thN
  rw [List.mem_flatMap]
  constructor
  · rintro ⟨s, hs, h⟩
    simp at h
    rw [h]
    exact hs
  · exact fun h => ⟨r, h, by simp⟩
theorem ok_th (o : Ok k w A) (h : k + k ≤ 6) : Ok (k + k) w (thN A) := ⟨by rw [thN_len, o.len], fun r hr => o.row r (thN_mem.1 hr), fun r hr => o.sign r (thN_mem.1 hr), by have := o.k1; omega, h, o.w1, o.w16⟩
theorem eq_iff_fn {B : Rows} (o : Ok k w A) (o2 : Ok k w B) : A = B ↔ ∀ x, fnw w A x = fnw w B x := ⟨fun h x => by rw [h], fnw_inj o.row o2.row⟩
theorem sh_iff {T : Rows} (o : Ok k w A) (o2 : Ok k w T) (b : Nat) : shN T b = A ↔ Sh (fnw w T) (fnw w A) b := by
  rw [eq_iff_fn (ok_sh o2 b) o]
  constructor
  · intro h x
    rw [← fn_shift o.w0 o2.row, h x]
  · intro h x
    rw [fn_shift o.w0 o2.row, h x]
theorem step_spec (o : Ok k w A) : ∃ S r, stepL w A = S :: r ∧ IsStep (fnw w A) S ∧ S ≤ w ∧ S ∣ w := by
  obtain ⟨S, r, e, h1, h2, h3, h4⟩ := head_least (P := isStepB w A) w 1 ⟨w, o.w1, by omega, by
    unfold isStepB
    rw [Nat.mod_self, (sh_iff o o w).2 fnw_per]
    simp⟩
  unfold isStepB at h3
  rw [Bool.and_eq_true, beq_iff_eq, beq_iff_eq] at h3
  refine ⟨S, r, e, step_of o.w0 fnw_per h1 (Nat.dvd_of_mod_eq_zero h3.1) ((sh_iff o o S).1 h3.2) fun d d0 d1 d2 d3 => ?_, by omega, Nat.dvd_of_mod_eq_zero h3.1⟩
  have := h4 d d0 d1
  unfold isStepB at this
  rw [Nat.mod_eq_zero_of_dvd d2, (sh_iff o o d).2 d3] at this
  simp at this
theorem stepN_ok (o : Ok k w A) : IsStep (fnw w A) (stepN w A) ∧ stepN w A ≤ w ∧ stepN w A ∣ w := by
  obtain ⟨S, r, e, h⟩ := step_spec o
  unfold stepN
  rw [e]
  exact h
theorem moveN_ok {T : Rows} (o : Ok k w A) (o2 : Ok k w T) {S : Nat} (hS : IsStep (fnw w A) S) : IsMove (fnw w T) (fnw w A) S (moveN T A S) := by
  unfold moveN
  cases e : fits T A S with
  | nil =>
    refine move_none hS fun m hm z => ?_
    have := filter_none e m (Nat.zero_le _) (by omega)
    rw [(sh_iff o o2 m).2 z] at this
    simp at this
  | cons m r =>
    have hm : m ∈ fits T A S := by
      rw [e]
      exact List.mem_cons_self
    unfold fits at hm
    rw [List.mem_filter, List.mem_range'_1, beq_iff_eq] at hm
    exact move_some hS (by omega) ((sh_iff o o2 m).1 hm.2)
theorem fn_ac' (o : Ok k w A) : fnw w (acN A) = neg (fnw w A) := funext fun x => fn_across o.w0 o.row x
theorem fn_ov' : fnw w A.reverse = rv (fnw w A) := funext fun x => fn_over x
theorem papN_ok (o : Ok k w A) : IsPap (fnw w A) (papN w A) := by
  have hs := (stepN_ok o).1
  refine ⟨hs, ?_, ?_, ?_, ?_⟩
  · rw [← fn_ac' o]
    exact moveN_ok o (ok_ac o) hs
  · show (A.reverse == A) = true ↔ _
    rw [beq_iff_eq, eq_iff_fn (ok_ov o) o]
    exact ⟨fun h x => by rw [← h x, fn_over]; rfl, fun h x => by rw [fn_over]; exact h x⟩
  · rw [← fn_ac' o, ← fn_ov']
    exact moveN_ok o (ok_ov (ok_ac o)) hs
  · show if (A.reverse == A) = true then (if (A.reverse == A) = true then none else _) = none else IsMove _ _ _ (if (A.reverse == A) = true then none else _)
    by_cases h : (A.reverse == A) = true
    · rw [if_pos h, if_pos h]
    · rw [if_neg h, if_neg h, ← fn_ov']
      exact moveN_ok o (ok_ov o) hs
/-- whatever function of a paper's kind the rows have: their paper is that -/
theorem papN_is (o : Ok k w A) {F : Fn} {p : Pap} (hF : ∀ x, fnw w A x = F x) (h : IsPap F p) : papN w A = p := by
  have e : fnw w A = F := funext hF
  exact pap_unique (papN_ok o) (by rw [e]; exact h)
end
end Pat
end

section
/-! K59C: the program's defs on patterns, walked. Plain Lean. -/
set_option autoImplicit false
set_option linter.all false
set_option maxRecDepth 100000
set_option maxHeartbeats 4000000
namespace Pat
open Cv Tape
variable {cf : CallF} {W : Nat}
def rowsS (A : Rows) : List D := A.map D.str
abbrev patT (A : Rows) : D := .tup (rowsS A)
theorem rowsS_length (A : Rows) : (rowsS A).length = A.length := List.length_map ..
theorem lenOk_of {n : Nat} (h : n ≤ 1000000) : lenOk n = true := by
  unfold lenOk
  rw [Nat.ble_eq]
  have : (1000000 : Nat) ≤ big := by decide
  omega
theorem len_str {s : List Nat} (h : s.length ≤ 1000000) : b1 .len (.str s) = some (N s.length) := by
  show (if lenOk s.length then some (D.int (s.length : Nat)) else none) = _
  rw [lenOk_of h]
  rfl
theorem len_rows (A : Rows) : b1 .len (patT A) = some (N A.length) := by
  show some (D.int ((rowsS A).length : Nat)) = _
  rw [rowsS_length]
theorem ix_rows {A : Rows} {i : Nat} (h : i < A.length) : ixD (patT A) (N i) = some (.str (A.getD i [])) := by
  show atI (rowsS A) (i : Int) = _
  unfold atI
  rw [rowsS_length, ixN_nat h]
  unfold rowsS
  show (A.map D.str)[i]? = _
  rw [List.getElem?_map, List.getElem?_eq_getElem h, List.getD_eq_getElem?_getD, List.getElem?_eq_getElem h]
  rfl
def Sg (s : List Nat) : Prop := s.length ≤ 1000000 ∧ ∀ c ∈ s, c = 35 ∨ c = 46
theorem fit_str {s : List Nat} (h : Sg s) (n : Nat) : D.fit (.str s) n = true := by
  show (s.all (fun c => Nat.blt c 1114112) && lenOk s.length) = true
  rw [lenOk_of h.1, Bool.and_true, List.all_eq_true]
  intro c hc
  rcases h.2 c hc with rfl | rfl <;> rfl
theorem fit_rows {n : Nat} : ∀ {A : Rows}, (∀ r ∈ A, Sg r) → D.fitL (rowsS A) n = true
  | [], _ => by cases n <;> rfl
  | r :: A, h => by
    show (D.fit (.str r) n && D.fitL (rowsS A) n) = true
    rw [fit_str (h r List.mem_cons_self), fit_rows fun s hs => h s (List.mem_cons_of_mem _ hs)]
    rfl
theorem eqv_rowsS : ∀ (A B : Rows), D.eqvL (rowsS A) (rowsS B) = (A == B)
  | [], [] => rfl
  | [], _ :: _ => rfl
  | _ :: _, [] => rfl
  | a :: A, b :: B => by
    show ((a == b) && D.eqvL (rowsS A) (rowsS B)) = (a :: A == b :: B)
    rw [eqv_rowsS A B]
    rfl
theorem eq_rows {A B : Rows} (hA : ∀ r ∈ A, Sg r) (hB : ∀ r ∈ B, Sg r) : cmpD .eq (patT A) (patT B) = some (A == B) := by
  have h1 : D.fit (patT A) 64 = true := fit_rows (n := 63) hA
  have h2 : D.fit (patT B) 64 = true := fit_rows (n := 63) hB
  show eqD (patT A) (patT B) = _
  unfold eqD
  rw [h1, h2]
  show some (D.eqvL (rowsS A) (rowsS B)) = _
  rw [eqv_rowsS]
theorem ne_rowsS {A B : Rows} (hA : ∀ r ∈ A, Sg r) (hB : ∀ r ∈ B, Sg r) : cmpD .ne (patT A) (patT B) = some (!(A == B)) := by
  have := eq_rows hA hB
  show (eqD (patT A) (patT B)).map (!·) = _
  rw [show eqD (patT A) (patT B) = some (A == B) from this]
  rfl
theorem Ok.sg {k w : Nat} {A : Rows} (o : Ok k w A) : ∀ r ∈ A, Sg r := fun r hr => ⟨by have := o.row r hr; have := o.w16; omega, o.sign r hr⟩
/-! slices of texts -/
theorem sIx_nat {n d b : Nat} : sIx n d (some (b : Int)) = min b n := by
  show (if (b : Int) < 0 then ((b : Int) + (n : Nat)).toNat else if (b : Int) < (n : Nat) then (b : Int).toNat else n) = _
  rw [if_neg (by omega)]
  split <;> omega
theorem sl_to {s : List Nat} {b : Nat} (h : s.length ≤ 1000000) : slD (.str s) none (some (b : Int)) = some (.str (s.take b)) := by
  show (if lenOk s.length then some (D.str (cutL s none (some (b : Int)))) else none) = _
  rw [lenOk_of h, if_pos rfl]
  congr 2
  unfold cutL
  rw [sIx_nat]
  show (s.drop 0).take (min b s.length - 0) = _
  rw [List.drop_zero, Nat.sub_zero]
  by_cases hl : b ≤ s.length
  · rw [Nat.min_eq_left hl]
  · rw [Nat.min_eq_right (by omega), List.take_of_length_le (Nat.le_refl _), List.take_of_length_le (by omega)]
theorem sl_from {s : List Nat} {b : Nat} (h : s.length ≤ 1000000) (hb : b ≤ s.length) : slD (.str s) (some (b : Int)) none = some (.str (s.drop b)) := by
  show (if lenOk s.length then some (D.str (cutL s (some (b : Int)) none)) else none) = _
  rw [lenOk_of h, if_pos rfl]
  congr 2
  unfold cutL
  rw [sIx_nat]
  show (s.drop (min b s.length)).take (s.length - min b s.length) = _
  rw [Nat.min_eq_left hb, List.take_of_length_le (by rw [List.length_drop]; exact Nat.le_refl _)]
theorem slFrom_O {x lo : CE} {p d : D} {h : Int} {env e1 e2 : Env} (hx : O cf x env p e1) (hh : evE cf lo e1 = some (.int h, e2)) (hs : slD p (some h) none = some d) : evE cf (.sl x (.e lo) .no) env = some (d, e2) := by
  unfold O at hx
  simp only [evE, hx, rd, evO, hh, hs]
theorem rev_str {s : List Nat} (h : s.length ≤ 1000000) : revD (.str s) = some (.str s.reverse) := by
  show (if lenOk s.length then some (D.str s.reverse) else none) = _
  rw [lenOk_of h]
  rfl
theorem add_str {a b : List Nat} (h : a.length + b.length ≤ 1000000) : binD .add (.str a) (.str b) = some (.str (a ++ b)) := by
  show (if lenOk (a.length + b.length) then some (D.str (a ++ b)) else none) = _
  rw [lenOk_of h]
  rfl
theorem add_rows {A B : Rows} (h : A.length + B.length ≤ 1000000) : binD .add (patT A) (patT B) = some (patT (A ++ B)) := by
  show (if lenOk ((rowsS A).length + (rowsS B).length) then some (D.tup (rowsS A ++ rowsS B)) else none) = _
  rw [rowsS_length, rowsS_length, lenOk_of h]
  unfold rowsS
  show some (D.tup (A.map D.str ++ B.map D.str)) = some (D.tup ((A ++ B).map D.str))
  rw [List.map_append]
theorem mod_N {a b : Nat} (h : 0 < b) : binD .mod (N a) (N b) = some (N (a % b)) := by
  show (binI .mod (a : Int) (b : Int)).map D.int = _
  rw [mod_nat a b (by omega)]
  rfl
theorem trev_of {a : CE} {env e1 : Env} {xs : List D} (h : evE cf a env = some (.tup xs, e1)) : evE cf (.trev a) env = some (.tup xs.reverse, e1) := by
  simp only [evE, h]
theorem runF_nx {np n : Nat} {body : CSs} {args : List D} {e : Env} (hl : (args.length == np) = true) (h : exSs cf W body (args.map .val ++ List.replicate (n - np) .no) = some (.nx, e)) : runF cf W ⟨np, n, .v, body⟩ args = some (.non, .non) := by
  have h2 : exSs cf W body (startE .v args ++ List.replicate (n - np) .no) = some (.nx, e) := by
    have : startE .v args = args.map .val := by
      cases args <;> rfl
    rw [this, h]
  unfold runF
  simp only [hl, if_true, h2, ioOut]
  rfl
/-- lo ≤ c ≤ hi -/
theorem chain_n {c : CE} {lo hi n : Nat} {env : Env} (h : evE cf c env = some (N n, env)) (h1 : lo ≤ n) (h2 : n ≤ hi) : evE cf (.nott (.chain .le .le (.lit (N lo)) c (.lit (N hi)))) env = some (.bl false, env) := by
  refine nott_of (b := true) (T_b (chain_t (x := N lo) (y := N n) (z := N hi) rfl h ?_ rfl ?_) rfl)
  · show some (decide ((lo : Int) ≤ (n : Int))) = _
    rw [decide_eq_true (by omega)]
  · show some (decide ((n : Int) ≤ (hi : Int))) = _
    rw [decide_eq_true (by omega)]
section
variable {k w : Nat} {A : Rows}
theorem Ok.get0 (o : Ok k w A) : (A.getD 0 []).length = w ∧ A.getD 0 [] ∈ A := by
  have h : 0 < A.length := by rw [o.len]; exact o.k1
  rw [List.getD_eq_getElem?_getD, List.getElem?_eq_getElem h]
  exact ⟨o.row _ (List.getElem_mem _), List.getElem_mem _⟩
/-- len(rows[0]) -/
theorem wide_of (o : Ok k w A) {env : Env} {i : Nat} (h : env[i]? = some (.val (patT A))) : evE cf (.b1 .len (.ix (.var i) (.lit (.int 0)))) env = some (N w, env) := by
  have h0 : 0 < A.length := by rw [o.len]; exact o.k1
  have h1 := ix_O (O_v h) (lit_of (cf := cf) (d := N 0) (env := env)) (ix_rows h0)
  have h2 := len_str (s := A.getD 0 []) (by have := o.get0.1; have := o.w16; omega)
  rw [o.get0.1] at h2
  exact b1_O (O_e h1 rfl) h2
def BCheck : CSs := (.cons (.ife (.ort (.nott (.chain .le .le (.lit (.int 1)) (.b1 .len (.var 0)) (.lit (.int 6)))) (.ort (.nott (.chain .le .le (.lit (.int 1)) (.b1 .len (.ix (.var 0) (.lit (.int 0)))) (.lit (.int 16)))) (.nott (.b1 .all (.lc (.cmp .eq (.b1 .len (.var 1)) (.b1 .len (.ix (.var 0) (.lit (.int 0))))) (.name 1) (.own 0) [1] .no))))) (.cons .never .nil) .nil) (.cons (.ife (.nott (.b1 .all (.lc (.b1 .all (.lc (.cmp .inn (.var 2) (.lit (.str [35, 46]))) (.name 2) (.own 1) [2] .no)) (.name 1) (.own 0) [1] .no))) (.cons .never .nil) .nil) .nil))
def FCheck : CF := ⟨1, 3, .v, BCheck⟩
theorem all_tt {α : Type} {l : List α} : b1 .all (.lst (l.map fun _ => D.bl true)) = some (.bl true) := by
  show (boolsOf (l.map fun _ => D.bl true)).map _ = _
  have : ∀ l : List α, boolsOf (l.map fun _ => D.bl true) = some (l.map fun _ => true) := by
    intro l
    induction l with
    | nil => rfl
    | cons x l ih =>
      show (boolsOf (l.map fun _ => D.bl true)).map (true :: ·) = _
      rw [ih]
      rfl
  rw [this]
  show some (D.bl ((l.map fun _ => true).all id)) = _
  have : (l.map fun _ => true).all id = true := by
    rw [List.all_eq_true]
    intro x hx
    obtain ⟨_, _, rfl⟩ := List.mem_map.1 hx
    rfl
  rw [this]
theorem check_ok (o : Ok k w A) : runF cf W FCheck [patT A] = some (.non, .non) := by
  have hk := len_rows A
  rw [o.len] at hk
  have a1 := chain_n (cf := cf) (c := .b1 .len (.var 0)) (lo := 1) (hi := 6) (env := [.val (patT A), .no, .no]) (b1_O (O_v rfl) hk) o.k1 o.k6
  have a2 := chain_n (cf := cf) (c := .b1 .len (.ix (.var 0) (.lit (.int 0)))) (lo := 1) (hi := 16) (env := [.val (patT A), .no, .no]) (wide_of o rfl) o.w1 o.w16
  have hlA : lenOk A.length = true := lenOk_of (by have := o.len; have := o.k6; omega)
  have l1 := lc_all (cf := cf) (x := .cmp .eq (.b1 .len (.var 1)) (.b1 .len (.ix (.var 0) (.lit (.int 0))))) (i := 1) (it := .own 0) (env := [.val (patT A), .no, .no]) (g := D.str) (f := fun _ => .bl true) (xs := A)
    (walk_v (d := patT A) rfl rfl) (by show 1 < 3; omega) rfl hlA rfl (fun r hr => by
      have h2 := len_str (s := r) (by have := o.row r hr; have := o.w16; omega)
      rw [o.row r hr] at h2
      have := cmp_O (cf := cf) (o := .eq) (env := [.val (patT A), .val (.str r), .no]) (O_e (b1_O (f := .len) (a := .var 1) (O_v rfl) h2) rfl) (O_e (wide_of o (i := 0) rfl) rfl) (eq_N (a := w) (b := w))
      rw [BEq.rfl] at this
      exact this)
  have a3 := nott_of (T_b (b1_O (f := .all) (O_e l1 rfl) all_tt) rfl)
  have s1 := ife_skip (W := W) (a := .cons .never .nil) (T_b (ort_p a1 (ort_p a2 a3)) rfl)
  have l2 := lc_all (cf := cf) (x := .b1 .all (.lc (.cmp .inn (.var 2) (.lit (.str [35, 46]))) (.name 2) (.own 1) [2] .no)) (i := 1) (it := .own 0) (env := [.val (patT A), .no, .no]) (g := D.str) (f := fun _ => .bl true) (xs := A)
    (walk_v (d := patT A) rfl rfl) (by show 1 < 3; omega) rfl hlA rfl (fun r hr => by
      have l3 := lc_all (cf := cf) (x := .cmp .inn (.var 2) (.lit (.str [35, 46]))) (i := 2) (it := .own 1) (env := [.val (patT A), .val (.str r), .no]) (g := fun c => D.str [c]) (f := fun _ => .bl true) (xs := r)
        (walk_v (d := .str r) rfl rfl) (by show 2 < 3; omega) rfl (lenOk_of (by have := o.row r hr; have := o.w16; omega)) rfl (fun c hc => by
          refine cmp_O (a := .str [c]) (b := .str [35, 46]) (O_v rfl) O_lit ?_
          rcases o.sign r hr c hc with rfl | rfl <;> rfl)
      exact b1_O (f := .all) (O_e l3 rfl) all_tt)
  have a4 := nott_of (T_b (b1_O (f := .all) (O_e l2 rfl) all_tt) rfl)
  have s2 := ife_skip (W := W) (a := .cons .never .nil) (T_b a4 rfl)
  exact runF_nx rfl ((exs_cons s1).trans ((exs_cons s2).trans exs_nil))
theorem map_rowsS (f : List Nat → List Nat) (A : Rows) : A.map (fun r => D.str (f r)) = rowsS (A.map f) := by
  unfold rowsS
  rw [List.map_map]
  rfl
def BShift : CSs := (.cons (.ret (.b1 .tuple (.lc (.bin .add (.sl (.var 2) (.e (.bin .mod (.var 1) (.b1 .len (.var 2)))) .no) (.sl (.var 2) .no (.e (.bin .mod (.var 1) (.b1 .len (.var 2)))))) (.name 2) (.own 0) [2] .no))) .nil)
def FShift : CF := ⟨2, 3, .v, BShift⟩
theorem shift_ok (o : Ok k w A) (b : Nat) : runF cf W FShift [patT A, N b] = some (patT (shN A b), .non) := by
  have l1 := lc_all (cf := cf) (x := .bin .add (.sl (.var 2) (.e (.bin .mod (.var 1) (.b1 .len (.var 2)))) .no) (.sl (.var 2) .no (.e (.bin .mod (.var 1) (.b1 .len (.var 2)))))) (i := 2) (it := .own 0) (env := [.val (patT A), .val (N b), .no]) (g := D.str) (f := fun r => .str (shR b r)) (xs := A)
    (walk_v (d := patT A) rfl rfl) (by show 2 < 3; omega) rfl (lenOk_of (by have := o.len; have := o.k6; omega)) rfl (fun r hr => by
      have hl := o.row r hr
      have h16 := o.w16
      have h0 := o.w1
      have m1 := bin_O (cf := cf) (o := .mod) (env := [.val (patT A), .val (N b), .val (.str r)]) (x := .var 1) (y := .b1 .len (.var 2)) (O_v rfl) (O_e (b1_O (O_v rfl) (len_str (by omega))) rfl) (mod_N (a := b) (b := r.length) (by omega))
      have hm := Nat.mod_lt b (show 0 < r.length by omega)
      exact bin_O (O_e (slFrom_O (O_v rfl) m1 (sl_from (by omega) (by omega))) rfl) (O_e (slTo_O (O_v rfl) m1 (sl_to (by omega))) rfl) (add_str (by rw [List.length_drop, List.length_take]; omega)))
  rw [map_rowsS] at l1
  exact runF_v rfl (exs_ret (ret_of (b1_O (f := .tuple) (O_e l1 rfl) rfl)))
def BAcross : CSs := (.cons (.ret (.b1 .tuple (.lc (.rev (.var 1)) (.name 1) (.own 0) [1] .no))) .nil)
def FAcross : CF := ⟨1, 2, .v, BAcross⟩
theorem across_ok (o : Ok k w A) : runF cf W FAcross [patT A] = some (patT (acN A), .non) := by
  have l1 := lc_all (cf := cf) (x := .rev (.var 1)) (i := 1) (it := .own 0) (env := [.val (patT A), .no]) (g := D.str) (f := fun r => .str r.reverse) (xs := A)
    (walk_v (d := patT A) rfl rfl) (by show 1 < 2; omega) rfl (lenOk_of (by have := o.len; have := o.k6; omega)) rfl (fun r hr => rev_O (O_v rfl) (rev_str (by have := o.row r hr; have := o.w16; omega)))
  rw [map_rowsS List.reverse] at l1
  exact runF_v rfl (exs_ret (ret_of (b1_O (f := .tuple) (O_e l1 rfl) rfl)))
def BOver : CSs := (.cons (.ret (.trev (.var 0))) .nil)
def FOver : CF := ⟨1, 1, .v, BOver⟩
theorem over_ok : runF cf W FOver [patT A] = some (patT A.reverse, .non) := by
  have h := trev_of (cf := cf) (a := .var 0) (env := [.val (patT A)]) (xs := rowsS A) rfl
  have e : (rowsS A).reverse = rowsS A.reverse := by
    unfold rowsS
    rw [List.map_reverse]
  rw [e] at h
  exact runF_v rfl (exs_ret (ret_of h))
end
/-! ### what answers -/
structure Base (cf : CallF) : Prop where
  check : ∀ {k w A}, Ok k w A → ∃ o, cf 0 [patT A] = some (.non, o)
  shift : ∀ {k w A}, Ok k w A → ∀ b, ∃ o, cf 1 [patT A, N b] = some (patT (shN A b), o)
  across : ∀ {k w A}, Ok k w A → ∃ o, cf 3 [patT A] = some (patT (acN A), o)
  over : ∀ A, ∃ o, cf 4 [patT A] = some (patT A.reverse, o)
section
variable {k w : Nat} {A : Rows}
theorem shiftP (P : Base cf) (o : Ok k w A) {a b : CE} {env e1 e2 : Env} {n : Nat} (ha : evE cf a env = some (patT A, e1)) (hb : evE cf b e1 = some (N n, e2)) : evE cf (.call 1 (.cons a (.cons b .nil))) env = some (patT (shN A n), e2) := by
  obtain ⟨_, h⟩ := P.shift o n
  exact call_of (evL_two ha hb) h
theorem acrossP (P : Base cf) (o : Ok k w A) {a : CE} {env e1 : Env} (ha : evE cf a env = some (patT A, e1)) : evE cf (.call 3 (.cons a .nil)) env = some (patT (acN A), e1) := by
  obtain ⟨_, h⟩ := P.across o
  exact call_of (evL_one ha) h
theorem overP (P : Base cf) {a : CE} {env e1 : Env} (ha : evE cf a env = some (patT A, e1)) : evE cf (.call 4 (.cons a .nil)) env = some (patT A.reverse, e1) := by
  obtain ⟨_, h⟩ := P.over A
  exact call_of (evL_one ha) h
def BLeast : CSs := (.cons (.ex (.call 0 (.cons (.var 0) .nil))) (.cons (.ret (.ix (.lc (.var 1) (.name 1) (.rng2 (.lit (.int 1)) (.bin .add (.b1 .len (.ix (.var 0) (.lit (.int 0)))) (.lit (.int 1)))) [1] (.e (.andt (.cmp .eq (.bin .mod (.b1 .len (.ix (.var 0) (.lit (.int 0)))) (.var 1)) (.lit (.int 0))) (.cmp .eq (.call 1 (.cons (.var 0) (.cons (.var 1) .nil))) (.b1 .tuple (.var 0)))))) (.lit (.int 0)))) .nil))
def FLeast : CF := ⟨1, 2, .v, BLeast⟩
theorem evT_of {c : CE} {env e1 : Env} {b : Bool} (h : T cf c env b e1) : evT cf (.e c) env = some (b, e1) := by
  unfold T at h
  simp only [evT]
  exact h
theorem least_ok (P : Base cf) (o : Ok k w A) : runF cf W FLeast [patT A] = some (N (stepN w A), .non) := by
  obtain ⟨_, hc⟩ := P.check o
  have h0 := o.w1
  have h16 := o.w16
  have s1 : exS cf W (.ex (.call 0 (.cons (.var 0) .nil))) [.val (patT A), .no] = some (.nx, [.val (patT A), .no]) := by
    have := call_of (cf := cf) (evL_one (ev_v (i := 0) (env := [.val (patT A), .no]) rfl)) hc
    simp only [exS, this]
  have hw : evE cf (.bin .add (.b1 .len (.ix (.var 0) (.lit (.int 0)))) (.lit (.int 1))) [.val (patT A), .no] = some (N (w + 1), [.val (patT A), .no]) := bin_O (O_e (wide_of o rfl) rfl) O_lit rfl
  have l1 := lc_one (cf := cf) (x := .var 1) (i := 1) (it := .rng2 (.lit (.int 1)) (.bin .add (.b1 .len (.ix (.var 0) (.lit (.int 0)))) (.lit (.int 1)))) (t := .e (.andt (.cmp .eq (.bin .mod (.b1 .len (.ix (.var 0) (.lit (.int 0)))) (.var 1)) (.lit (.int 0))) (.cmp .eq (.call 1 (.cons (.var 0) (.cons (.var 1) .nil))) (.b1 .tuple (.var 0)))))
    (env := [.val (patT A), .no]) (g := N) (P := isStepB w A) (f := N) (xs := rng 1 (w + 1)) (rng2_of (i := 1) (j := w + 1) rfl hw (by omega) (by omega)) (by show 1 < 2; omega) rfl (lenOk_of (by unfold rng; rw [List.length_map, List.length_range]; omega)) rfl (fun b hb => ⟨by
      rw [mem_rng] at hb
      have c1 := cmp_O (cf := cf) (o := .eq) (env := [.val (patT A), .val (N b)]) (y := .lit (N 0)) (O_e (bin_O (o := .mod) (O_e (wide_of o (i := 0) rfl) rfl) (O_v (i := 1) rfl) (mod_N (a := w) (b := b) (by omega))) rfl) O_lit (eq_N (a := w % b) (b := 0))
      have c2 := cmp_O (cf := cf) (o := .eq) (env := [.val (patT A), .val (N b)]) (O_e (shiftP P o (a := .var 0) (b := .var 1) (ev_v rfl) (ev_v rfl)) rfl) (O_e (b1_O (f := .tuple) (a := .var 0) (d := patT A) (O_v rfl) rfl) rfl) (eq_rows (ok_sh o b).sg o.sg)
      have c3 : evE cf (.andt (.cmp .eq (.bin .mod (.b1 .len (.ix (.var 0) (.lit (.int 0)))) (.var 1)) (.lit (.int 0))) (.cmp .eq (.call 1 (.cons (.var 0) (.cons (.var 1) .nil))) (.b1 .tuple (.var 0)))) [.val (patT A), .val (N b)] = some (.bl (w % b == 0 && shN A b == A), [.val (patT A), .val (N b)]) := by
        cases hx : w % b == 0
        · rw [hx] at c1
          exact andt_f c1
        · rw [hx] at c1
          exact (andt_t c1).trans c2
      exact evT_of (T_b c3 rfl), fun _ => ev_v rfl⟩)
  have e2 : (rng 1 (w + 1)).filter (isStepB w A) = stepL w A := by
    unfold stepL
    rw [rng_range', Nat.add_sub_cancel]
  rw [e2] at l1
  obtain ⟨S, r, e3, _⟩ := step_spec o
  have hx : ixD (.lst ((stepL w A).map N)) (N 0) = some (N (stepN w A)) := by
    have : (stepL w A).map N = natsD (stepL w A) := rfl
    rw [this]
    exact ix_lst (by rw [e3]; exact Nat.succ_pos _)
  exact runF_v rfl ((exs_cons s1).trans (exs_ret (ret_of (ix_O (O_e l1 rfl) lit_of hx))))
def optD : Option Nat → D
  | none => .non
  | some n => N n
def BMove : CSs := (.cons (.asg (.name 3) (.lc (.var 4) (.name 4) (.rng1 (.var 2)) [4] (.e (.cmp .eq (.call 1 (.cons (.var 0) (.cons (.var 4) .nil))) (.b1 .tuple (.var 1)))))) (.cons (.ret (.ite (.var 3) (.ix (.var 3) (.lit (.int 0))) (.lit .non))) .nil))
def FMove : CF := ⟨3, 5, .v, BMove⟩
theorem move_ok (P : Base cf) {B : Rows} (o : Ok k w A) (o2 : Ok k w B) {S : Nat} (hS : S ≤ 16) : runF cf W FMove [patT B, patT A, N S] = some (optD (moveN B A S), .non) := by
  have l1 := lc_one (cf := cf) (x := .var 4) (i := 4) (it := .rng1 (.var 2)) (t := .e (.cmp .eq (.call 1 (.cons (.var 0) (.cons (.var 4) .nil))) (.b1 .tuple (.var 1))))
    (env := [.val (patT B), .val (patT A), .val (N S), .no, .no]) (g := N) (P := fun b => shN B b == A) (f := N) (xs := List.range S) (rng1_of (ev_v rfl) (rng_nat (by omega))) (by show 4 < 5; omega) rfl (lenOk_of (by rw [List.length_range]; omega)) rfl (fun b hb => ⟨by
      have c2 := cmp_O (cf := cf) (o := .eq) (env := [.val (patT B), .val (patT A), .val (N S), .no, .val (N b)]) (O_e (shiftP P o2 (a := .var 0) (b := .var 4) (ev_v rfl) (ev_v rfl)) rfl) (O_e (b1_O (f := .tuple) (a := .var 1) (d := patT A) (O_v rfl) rfl) rfl) (eq_rows (ok_sh o2 b).sg o.sg)
      exact evT_of (T_b c2 rfl), fun _ => ev_v rfl⟩)
  have e2 : (List.range S).filter (fun b => shN B b == A) = fits B A S := by
    unfold fits
    rw [List.range_eq_range']
  rw [e2] at l1
  have s1 : exS cf W (.asg (.name 3) (.lc (.var 4) (.name 4) (.rng1 (.var 2)) [4] (.e (.cmp .eq (.call 1 (.cons (.var 0) (.cons (.var 4) .nil))) (.b1 .tuple (.var 1)))))) [.val (patT B), .val (patT A), .val (N S), .no, .no] = some (.nx, [.val (patT B), .val (patT A), .val (N S), .val (.lst (natsD (fits B A S))), .no]) := asg_of l1 rfl
  have s2 : evE cf (.ite (.var 3) (.ix (.var 3) (.lit (.int 0))) (.lit .non)) [.val (patT B), .val (patT A), .val (N S), .val (.lst (natsD (fits B A S))), .no] = some (optD (moveN B A S), [.val (patT B), .val (patT A), .val (N S), .val (.lst (natsD (fits B A S))), .no]) := by
    unfold moveN
    cases e : fits B A S with
    | nil => exact (ite_f (T_O (O_v (i := 3) (d := .lst (natsD [])) rfl) rfl)).trans rfl
    | cons m r =>
      refine (ite_t (T_O (O_v (i := 3) (d := .lst (natsD (m :: r))) rfl) rfl)).trans ?_
      exact ix_O (O_v (d := .lst (natsD (m :: r))) rfl) (lit_of (d := N 0)) (ix_lst (l := m :: r) (r := 0) (Nat.succ_pos _))
  exact runF_v rfl ((exs_cons s1).trans (exs_ret (ret_of s2)))
end
end Pat
end

section
/-! K59D: papers and drawn patterns, walked. Plain Lean. -/
set_option autoImplicit false
set_option linter.all false
set_option maxRecDepth 100000
set_option maxHeartbeats 4000000
namespace Pat
open Cv Tape
variable {cf : CallF} {W : Nat}
def BStrip : CSs := (.cons (.asg (.name 1) (.call 2 (.cons (.var 0) .nil))) (.cons (.asg (.name 2) (.call 6 (.cons (.call 3 (.cons (.var 0) .nil)) (.cons (.var 0) (.cons (.var 1) .nil))))) (.cons (.asg (.name 3) (.ite (.cmp .eq (.call 4 (.cons (.var 0) .nil)) (.b1 .tuple (.var 0))) (.lit (.int 0)) (.lit .non))) (.cons (.asg (.name 4) (.call 6 (.cons (.call 4 (.cons (.call 3 (.cons (.var 0) .nil)) .nil)) (.cons (.var 0) (.cons (.var 1) .nil))))) (.cons (.asg (.name 5) (.ite (.cmp .is (.var 3) (.lit .non)) (.call 6 (.cons (.call 4 (.cons (.var 0) .nil)) (.cons (.var 0) (.cons (.var 1) .nil)))) (.lit .non))) (.cons (.ife (.cmp .eq (.var 3) (.lit (.int 0))) (.cons (.asg (.name 6) (.ite (.cmp .isn (.var 2) (.lit .non)) (.lit (.str [112, 50, 109, 109])) (.lit (.str [112, 49, 49, 109])))) .nil) (.cons (.ife (.cmp .isn (.var 5) (.lit .non)) (.cons (.asg (.name 6) (.ite (.cmp .isn (.var 2) (.lit .non)) (.lit (.str [112, 50, 109, 103])) (.lit (.str [112, 49, 49, 103])))) .nil) (.cons (.ife (.cmp .isn (.var 2) (.lit .non)) (.cons (.asg (.name 6) (.lit (.str [112, 49, 109, 49]))) .nil) (.cons (.asg (.name 6) (.ite (.cmp .isn (.var 4) (.lit .non)) (.lit (.str [112, 50])) (.lit (.str [112, 49])))) .nil)) .nil)) .nil)) (.cons (.ret (.tup (.cons (.var 6) (.cons (.var 1) (.cons (.var 2) (.cons (.var 3) (.cons (.var 4) (.cons (.var 5) .nil)))))))) .nil)))))))
def FStrip : CF := ⟨1, 7, .v, BStrip⟩
def BTakes : CSs := (.cons (.asg (.tup [(.name 2), (.name 3), (.name 4), (.name 5), (.name 6), (.name 7)]) (.var 1)) (.cons (.ret (.andt (.cmp .inn (.var 2) (.lit (.tup [(.str [112, 49]), (.str [112, 49, 49, 103]), (.str [112, 49, 109, 49]), (.str [112, 50]), (.str [112, 50, 109, 103]), (.str [112, 49, 49, 109]), (.str [112, 50, 109, 109])]))) (.andt (.cmp .eq (.b1 .tuple (.var 1)) (.call 5 (.cons (.var 0) .nil))) (.cmp .ge (.var 3) (.lit (.int 1)))))) .nil))
def FTakes : CF := ⟨2, 8, .v, BTakes⟩
def BPattern : CSs := (.cons (.asgM [(1, false), (2, false)] (.cons (.bin .add (.lit (.int 1)) (.callT 9 0 (.cons (.lit (.int 8)) .nil))) (.cons (.bin .add (.lit (.int 1)) (.callT 9 0 (.cons (.lit (.int 3)) .nil))) .nil))) (.cons (.asg (.name 3) (.b1 .tuple (.lc (.join (.lit (.str [])) (.lc (.ix (.lit (.str [35, 46])) (.callT 9 0 (.cons (.lit (.int 2)) .nil))) (.name 6) (.rng1 (.var 1)) [6] .no)) (.name 5) (.rng1 (.var 2)) [5] .no))) (.cons (.ife (.cmp .eq (.callT 9 0 (.cons (.lit (.int 3)) .nil)) (.lit (.int 0))) (.cons (.asg (.name 4) (.b1 .tuple (.lc (.sl (.var 7) .no (.e (.bin .fdiv (.bin .add (.var 1) (.lit (.int 1))) (.lit (.int 2))))) (.name 7) (.own 3) [7] .no))) (.cons (.asg (.name 3) (.b1 .tuple (.lc (.sl (.bin .add (.var 7) (.rev (.var 7))) .no (.e (.lit (.int 8)))) (.name 7) (.own 4) [7] .no))) .nil)) .nil) (.cons (.ret (.var 3)) .nil))))
def FPattern : CF := ⟨1, 8, .io, BPattern⟩
def levD (b : Bool) : D := if b then N 0 else .non
def nm (lv : Bool) (mi tu gl : Option Nat) : List Nat :=
  if lv then (if mi.isSome then [112, 50, 109, 109] else [112, 49, 49, 109]) else if gl.isSome then (if mi.isSome then [112, 50, 109, 103] else [112, 49, 49, 103]) else if mi.isSome then [112, 49, 109, 49] else if tu.isSome then [112, 50] else [112, 49]
def papD (p : Pap) : D := .tup [.str (nm p.level p.mirror p.turn p.glide), N p.step, optD p.mirror, levD p.level, optD p.turn, optD p.glide]
abbrev sName : CS := (.ife (.cmp .eq (.var 3) (.lit (.int 0))) (.cons (.asg (.name 6) (.ite (.cmp .isn (.var 2) (.lit .non)) (.lit (.str [112, 50, 109, 109])) (.lit (.str [112, 49, 49, 109])))) .nil) (.cons (.ife (.cmp .isn (.var 5) (.lit .non)) (.cons (.asg (.name 6) (.ite (.cmp .isn (.var 2) (.lit .non)) (.lit (.str [112, 50, 109, 103])) (.lit (.str [112, 49, 49, 103])))) .nil) (.cons (.ife (.cmp .isn (.var 2) (.lit .non)) (.cons (.asg (.name 6) (.lit (.str [112, 49, 109, 49]))) .nil) (.cons (.asg (.name 6) (.ite (.cmp .isn (.var 4) (.lit .non)) (.lit (.str [112, 50])) (.lit (.str [112, 49])))) .nil)) .nil)) .nil))
theorem name_ok (a : D) (S : Nat) (lv : Bool) (mi tu gl : Option Nat) : exS cf W sName [.val a, .val (N S), .val (optD mi), .val (levD lv), .val (optD tu), .val (optD gl), .no] = some (.nx, [.val a, .val (N S), .val (optD mi), .val (levD lv), .val (optD tu), .val (optD gl), .val (.str (nm lv mi tu gl))]) := by
  cases lv <;> cases gl <;> cases mi <;> cases tu <;> rfl
structure Base2 (cf : CallF) : Prop extends Base cf where
  least : ∀ {k w A}, Ok k w A → ∃ o, cf 2 [patT A] = some (N (stepN w A), o)
  move : ∀ {k w A B S}, Ok k w A → Ok k w B → S ≤ 16 → ∃ o, cf 6 [patT B, patT A, N S] = some (optD (moveN B A S), o)
section
variable {k w : Nat} {A : Rows}
theorem leastP (P : Base2 cf) (o : Ok k w A) {a : CE} {env e1 : Env} (ha : evE cf a env = some (patT A, e1)) : evE cf (.call 2 (.cons a .nil)) env = some (N (stepN w A), e1) := by
  obtain ⟨_, h⟩ := P.least o
  exact call_of (evL_one ha) h
theorem moveP (P : Base2 cf) {B : Rows} (o : Ok k w A) (o2 : Ok k w B) {S : Nat} (hS : S ≤ 16) {a b c : CE} {env e1 e2 e3 : Env} (ha : evE cf a env = some (patT B, e1)) (hb : evE cf b e1 = some (patT A, e2)) (hc : evE cf c e2 = some (N S, e3)) : evE cf (.call 6 (.cons a (.cons b (.cons c .nil)))) env = some (optD (moveN B A S), e3) := by
  obtain ⟨_, h⟩ := P.move o o2 hS
  exact call_of (evL_cons ha (evL_cons hb (evL_cons hc evL_nil))) h
theorem strip_ok (P : Base2 cf) (o : Ok k w A) : runF cf W FStrip [patT A] = some (papD (papN w A), .non) := by
  have hS : stepN w A ≤ 16 := by
    have := (stepN_ok o).2.1
    have := o.w16
    omega
  have s1 : exS cf W (.asg (.name 1) (.call 2 (.cons (.var 0) .nil))) [.val (patT A), .no, .no, .no, .no, .no, .no] = some (.nx, [.val (patT A), .val (N (stepN w A)), .no, .no, .no, .no, .no]) := asg_of (leastP P o (ev_v rfl)) rfl
  have s2 : exS cf W (.asg (.name 2) (.call 6 (.cons (.call 3 (.cons (.var 0) .nil)) (.cons (.var 0) (.cons (.var 1) .nil))))) [.val (patT A), .val (N (stepN w A)), .no, .no, .no, .no, .no] = some (.nx, [.val (patT A), .val (N (stepN w A)), .val (optD (moveN (acN A) A (stepN w A))), .no, .no, .no, .no]) :=
    asg_of (moveP P o (ok_ac o) hS (acrossP P.toBase o (ev_v rfl)) (ev_v rfl) (ev_v rfl)) rfl
  generalize hm : moveN (acN A) A (stepN w A) = mi at s2
  have s3 : exS cf W (.asg (.name 3) (.ite (.cmp .eq (.call 4 (.cons (.var 0) .nil)) (.b1 .tuple (.var 0))) (.lit (.int 0)) (.lit .non))) [.val (patT A), .val (N (stepN w A)), .val (optD mi), .no, .no, .no, .no] = some (.nx, [.val (patT A), .val (N (stepN w A)), .val (optD mi), .val (levD (A.reverse == A)), .no, .no, .no]) := by
    have c := cmp_O (cf := cf) (o := .eq) (env := [.val (patT A), .val (N (stepN w A)), .val (optD mi), .no, .no, .no, .no]) (O_e (Pat.overP P.toBase (a := .var 0) (ev_v rfl)) rfl) (O_e (b1_O (f := .tuple) (a := .var 0) (d := patT A) (O_v rfl) rfl) rfl) (eq_rows (ok_ov o).sg o.sg)
    cases hx : A.reverse == A
    · rw [hx] at c
      exact asg_of ((ite_f (T_b c rfl)).trans lit_of) rfl
    · rw [hx] at c
      exact asg_of ((ite_t (T_b c rfl)).trans lit_of) rfl
  have s4 : exS cf W (.asg (.name 4) (.call 6 (.cons (.call 4 (.cons (.call 3 (.cons (.var 0) .nil)) .nil)) (.cons (.var 0) (.cons (.var 1) .nil))))) [.val (patT A), .val (N (stepN w A)), .val (optD mi), .val (levD (A.reverse == A)), .no, .no, .no] = some (.nx, [.val (patT A), .val (N (stepN w A)), .val (optD mi), .val (levD (A.reverse == A)), .val (optD (moveN (acN A).reverse A (stepN w A))), .no, .no]) :=
    asg_of (moveP P o (ok_ov (ok_ac o)) hS (Pat.overP P.toBase (acrossP P.toBase o (ev_v rfl))) (ev_v rfl) (ev_v rfl)) rfl
  generalize ht : moveN (acN A).reverse A (stepN w A) = tu at s4
  have s5 : exS cf W (.asg (.name 5) (.ite (.cmp .is (.var 3) (.lit .non)) (.call 6 (.cons (.call 4 (.cons (.var 0) .nil)) (.cons (.var 0) (.cons (.var 1) .nil)))) (.lit .non))) [.val (patT A), .val (N (stepN w A)), .val (optD mi), .val (levD (A.reverse == A)), .val (optD tu), .no, .no] = some (.nx, [.val (patT A), .val (N (stepN w A)), .val (optD mi), .val (levD (A.reverse == A)), .val (optD tu), .val (optD (if (A.reverse == A) = true then none else moveN A.reverse A (stepN w A))), .no]) := by
    cases hx : A.reverse == A
    · rw [if_neg Bool.false_ne_true]
      exact asg_of ((ite_t (T_b (cmp_O (k := true) (O_v rfl) O_lit rfl) rfl)).trans (moveP P o (ok_ov o) hS (Pat.overP P.toBase (ev_v rfl)) (ev_v rfl) (ev_v rfl))) rfl
    · rw [if_pos rfl]
      exact asg_of ((ite_f (T_b (cmp_O (k := false) (O_v rfl) O_lit rfl) rfl)).trans lit_of) rfl
  have e : papN w A = ⟨stepN w A, mi, A.reverse == A, tu, if (A.reverse == A) = true then none else moveN A.reverse A (stepN w A)⟩ := by
    unfold papN
    rw [hm, ht]
  rw [e]
  generalize (if (A.reverse == A) = true then none else moveN A.reverse A (stepN w A)) = gl at s5
  generalize (A.reverse == A) = lv at s3 s4 s5
  exact runF_v rfl ((exs_cons s1).trans ((exs_cons s2).trans ((exs_cons s3).trans ((exs_cons s4).trans ((exs_cons s5).trans ((exs_cons (name_ok _ _ lv mi tu gl)).trans (exs_ret (ret_of rfl))))))))
theorem nm_fit (p : Pap) : D.fit (papD p) 64 = true := by
  obtain ⟨S, mi, lv, tu, gl⟩ := p
  cases lv <;> cases gl <;> cases mi <;> cases tu <;> rfl
theorem beq_int (n : Nat) : ((n : Int) == (n : Int)) = true := by rw [beq_iff_eq]
theorem opt_eqv (m : Option Nat) : D.eqv (optD m) (optD m) = true := by
  cases m with
  | none => rfl
  | some n => exact beq_int n
theorem lev_eqv (b : Bool) : D.eqv (levD b) (levD b) = true := by cases b <;> rfl
theorem pap_eqv (p : Pap) : D.eqv (papD p) (papD p) = true := by
  show (nm p.level p.mirror p.turn p.glide == nm p.level p.mirror p.turn p.glide && (((p.step : Int) == (p.step : Int)) && (D.eqv (optD p.mirror) (optD p.mirror) && (D.eqv (levD p.level) (levD p.level) && (D.eqv (optD p.turn) (optD p.turn) && (D.eqv (optD p.glide) (optD p.glide) && true)))))) = true
  rw [opt_eqv, opt_eqv, opt_eqv, lev_eqv, beq_int, BEq.rfl]
  rfl
theorem eq_pap (p : Pap) : cmpD .eq (papD p) (papD p) = some true := by
  show eqD (papD p) (papD p) = _
  unfold eqD
  rw [nm_fit, pap_eqv]
  rfl
theorem ne_pap (p : Pap) : cmpD .ne (papD p) (papD p) = some false := by
  have h : eqD (papD p) (papD p) = some true := eq_pap p
  show (eqD (papD p) (papD p)).map (!·) = _
  rw [h]
  rfl
structure Base3 (cf : CallF) : Prop extends Base2 cf where
  strip : ∀ {k w A}, Ok k w A → ∃ o, cf 5 [patT A] = some (papD (papN w A), o)
theorem stripP (P : Base3 cf) (o : Ok k w A) {a : CE} {env e1 : Env} (ha : evE cf a env = some (patT A, e1)) : evE cf (.call 5 (.cons a .nil)) env = some (papD (papN w A), e1) := by
  obtain ⟨_, h⟩ := P.strip o
  exact call_of (evL_one ha) h
abbrev dNames : D := (.tup [(.str [112, 49]), (.str [112, 49, 49, 103]), (.str [112, 49, 109, 49]), (.str [112, 50]), (.str [112, 50, 109, 103]), (.str [112, 49, 49, 109]), (.str [112, 50, 109, 109])])
theorem takes_ok (P : Base3 cf) (o : Ok k w A) : runF cf W FTakes [patT A, papD (papN w A)] = some (.bl true, .non) := by
  have hs := (stepN_ok o).1.1
  generalize hp : papN w A = p
  have hst : p.step = stepN w A := by rw [← hp]; rfl
  have s1 : exS cf W (.asg (.tup [(.name 2), (.name 3), (.name 4), (.name 5), (.name 6), (.name 7)]) (.var 1)) [.val (patT A), .val (papD p), .no, .no, .no, .no, .no, .no] =
      some (.nx, [.val (patT A), .val (papD p), .val (.str (nm p.level p.mirror p.turn p.glide)), .val (N p.step), .val (optD p.mirror), .val (levD p.level), .val (optD p.turn), .val (optD p.glide)]) := asg_of (ev_v rfl) rfl
  have a1 : evE cf (.cmp .inn (.var 2) (.lit dNames)) [.val (patT A), .val (papD p), .val (.str (nm p.level p.mirror p.turn p.glide)), .val (N p.step), .val (optD p.mirror), .val (levD p.level), .val (optD p.turn), .val (optD p.glide)] = some (.bl true, [.val (patT A), .val (papD p), .val (.str (nm p.level p.mirror p.turn p.glide)), .val (N p.step), .val (optD p.mirror), .val (levD p.level), .val (optD p.turn), .val (optD p.glide)]) := by
    refine cmp_O (O_v rfl) O_lit ?_
    obtain ⟨S, mi, lv, tu, gl⟩ := p
    cases lv <;> cases gl <;> cases mi <;> cases tu <;> rfl
  have h5 := stripP P o (a := .var 0) (env := [.val (patT A), .val (papD p), .val (.str (nm p.level p.mirror p.turn p.glide)), .val (N p.step), .val (optD p.mirror), .val (levD p.level), .val (optD p.turn), .val (optD p.glide)]) (ev_v rfl)
  rw [hp] at h5
  have a2 := cmp_O (cf := cf) (o := .eq) (x := .b1 .tuple (.var 1)) (O_e (b1_O (f := .tuple) (p := papD p) (d := papD p) (O_v rfl) rfl) rfl) (O_e h5 rfl) (eq_pap p)
  have a3 := cmp_O (cf := cf) (o := .ge) (x := .var 3) (y := .lit (N 1)) (env := [.val (patT A), .val (papD p), .val (.str (nm p.level p.mirror p.turn p.glide)), .val (N p.step), .val (optD p.mirror), .val (levD p.level), .val (optD p.turn), .val (optD p.glide)]) (k := true) (O_v rfl) O_lit (by
    show some (decide ((1 : Int) ≤ (p.step : Int))) = _
    rw [decide_eq_true (by omega)])
  exact runF_v rfl ((exs_cons s1).trans (exs_ret (ret_of ((andt_t a1).trans ((andt_t a2).trans a3)))))
end
/-! drawn patterns -/
theorem strsOf_one : ∀ (s : List Nat), strsOf (s.map fun c => D.str [c]) = some (s.map fun c => [c])
  | [] => rfl
  | c :: s => by
    show (strsOf (s.map fun c => D.str [c])).map ([c] :: ·) = _
    rw [strsOf_one s]
    rfl
theorem join_one : ∀ (s : List Nat), joinS [] (s.map fun c => [c]) = s
  | [] => rfl
  | [c] => rfl
  | c :: d :: s => by
    show [c] ++ [] ++ joinS [] ((d :: s).map fun c => [c]) = _
    rw [join_one (d :: s)]
    rfl
theorem join_of {b : CE} {env e2 : Env} {s : List Nat} (h : evE cf b env = some (.lst (s.map fun c => D.str [c]), e2)) (hl : s.length ≤ 100000) : evE cf (.join (.lit (.str [])) b) env = some (.str s, e2) := by
  have h2 : lenOk (((s.map fun c => [c]).map List.length).sum + (s.map fun c => [c]).length * ([] : List Nat).length) = true := by
    have : ((s.map fun c => [c]).map List.length).sum = s.length := by
      clear h hl
      induction s with
      | nil => rfl
      | cons c s ih =>
        rw [List.map_cons, List.map_cons, List.sum_cons, ih, List.length_cons (as := s)]
        show 1 + s.length = _
        omega
    rw [this]
    exact lenOk_of (by simp; omega)
  have h1 : evE cf (.lit (.str [])) env = some (.str [], env) := rfl
  have h3 : ∀ xs : List D, seqOf (.lst xs) = some xs := fun _ => rfl
  simp only [evE, h, h3, strsOf_one, h2, join_one, if_true]
abbrev ePat (t : D) (w h : Nat) (x3 x4 x5 x6 x7 : Sl) : Env := [.io t, .val (N w), .val (N h), x3, x4, x5, x6, x7]
abbrev eRow : CE := .lc (.ix (.lit (.str [35, 46])) (.callT 9 0 (.cons (.lit (.int 2)) .nil))) (.name 6) (.rng1 (.var 1)) [6] .no
theorem row_ok (hd : Draws cf 9) {t : D} (ht : TapeOk t) {w h : Nat} (hw : w ≤ 8) {x3 x4 x5 x6 x7 : Sl} (h6 : St x6) : ∃ (t' : D) (s : List Nat), evE cf eRow (ePat t w h x3 x4 x5 x6 x7) = some (.lst (s.map fun c => D.str [c]), ePat t' w h x3 x4 x5 x6 x7) ∧ TapeOk t' ∧ s.length = w ∧ ∀ c ∈ s, c = 35 ∨ c = 46 := by
  obtain ⟨e2, s, g1, ⟨t', y6, ht', k6, rfl⟩, hl, hs⟩ := lcGo_ex (tg := .name 6) (own := [6]) (t := evT cf .no) (e := evE cf (.ix (.lit (.str [35, 46])) (.callT 9 0 (.cons (.lit (.int 2)) .nil)))) (E := fun e => ∃ t' y6, TapeOk t' ∧ St y6 ∧ e = ePat t' w h x3 x4 x5 y6 x7)
    (g := N) (h := fun c => D.str [c]) (Q := fun c => c = 35 ∨ c = 46) (List.range w) (by
      rintro i hi _ ⟨t1, y6, ht1, k6, rfl⟩
      obtain ⟨r, t2, d2, hr, ht2⟩ := drawT (m := 2) hd ht1 (c := .lit (.int 2)) (rest := [.val (N w), .val (N h), x3, x4, x5, .val (N i), x7]) lit_of (by omega) (by omega)
      have hc : r = 0 ∨ r = 1 := by omega
      refine ⟨ePat t1 w h x3 x4 x5 (.val (N i)) x7, ePat t2 w h x3 x4 x5 (.val (N i)) x7, if r = 0 then 35 else 46, rfl, rfl, ix_O O_lit d2 ?_, ?_, _, _, ht2, St.val, rfl⟩
      · rcases hc with rfl | rfl <;> rfl
      · rcases hc with rfl | rfl
        · exact .inl rfl
        · exact .inr rfl) (ePat t w h x3 x4 x5 x6 x7) ⟨_, _, ht, h6, rfl⟩
  refine ⟨t', s, lc_of (rng1_of (ev_v rfl) (rng_nat (by omega))) (by rcases h6 with rfl | ⟨d, rfl⟩ <;> rfl) (lenOk_of (by rw [natsD_length, List.length_range]; omega)) g1 rfl, ht', by rw [hl, List.length_range], hs⟩
abbrev eRowsE : CE := .lc (.join (.lit (.str [])) eRow) (.name 5) (.rng1 (.var 2)) [5] .no
theorem rows_drawn (hd : Draws cf 9) {t : D} (ht : TapeOk t) {w h : Nat} (hw : w ≤ 8) (hh : h ≤ 3) : ∃ (t' : D) (A : Rows), evE cf eRowsE (ePat t w h .no .no .no .no .no) = some (.lst (rowsS A), ePat t' w h .no .no .no .no .no) ∧ TapeOk t' ∧ A.length = h ∧ ∀ r ∈ A, r.length = w ∧ ∀ c ∈ r, c = 35 ∨ c = 46 := by
  obtain ⟨e2, A, g1, ⟨t', y5, ht', k5, rfl⟩, hl, hs⟩ := lcGo_ex (tg := .name 5) (own := [5]) (t := evT cf .no) (e := evE cf (.join (.lit (.str [])) eRow)) (E := fun e => ∃ t' y5, TapeOk t' ∧ St y5 ∧ e = ePat t' w h .no .no y5 .no .no)
    (g := N) (h := D.str) (Q := fun r => r.length = w ∧ ∀ c ∈ r, c = 35 ∨ c = 46) (List.range h) (by
      rintro i hi _ ⟨t1, y5, ht1, k5, rfl⟩
      obtain ⟨t2, s, d2, ht2, hl, hs⟩ := row_ok (cf := cf) hd ht1 (w := w) (h := h) (x3 := .no) (x4 := .no) (x5 := .val (N i)) (x6 := .no) (x7 := .no) hw St.no
      exact ⟨ePat t1 w h .no .no (.val (N i)) .no .no, ePat t2 w h .no .no (.val (N i)) .no .no, s, by rcases k5 with rfl | ⟨d, rfl⟩ <;> rfl, rfl, join_of d2 (by omega), ⟨hl, hs⟩, _, _, ht2, St.val, rfl⟩) (ePat t w h .no .no .no .no .no) ⟨_, _, ht, St.no, rfl⟩
  exact ⟨t', A, lc_of (rng1_of (ev_v rfl) (rng_nat (by omega))) rfl (lenOk_of (by rw [natsD_length, List.length_range]; omega)) g1 rfl, ht', by rw [hl, List.length_range], hs⟩
theorem pattern_ok (hd : Draws cf 9) {t : D} (ht : TapeOk t) : ∃ (t' : D) (A : Rows) (k w : Nat), runF cf W FPattern [t] = some (patT A, t') ∧ TapeOk t' ∧ Ok k w A ∧ k ≤ 3 ∧ w ≤ 8 := by
  obtain ⟨a, t1, d1, ha, ht1⟩ := drawT (m := 8) hd ht (c := .lit (.int 8)) (rest := [.no, .no, .no, .no, .no, .no, .no]) lit_of (by omega) (by omega)
  obtain ⟨b, t2, d2, hb, ht2⟩ := drawT (m := 3) hd ht1 (c := .lit (.int 3)) (rest := [.no, .no, .no, .no, .no, .no, .no]) lit_of (by omega) (by omega)
  have s1 : exS cf W (.asgM [(1, false), (2, false)] (.cons (.bin .add (.lit (.int 1)) (.callT 9 0 (.cons (.lit (.int 8)) .nil))) (.cons (.bin .add (.lit (.int 1)) (.callT 9 0 (.cons (.lit (.int 3)) .nil))) .nil))) [.io t, .no, .no, .no, .no, .no, .no, .no] = some (.nx, ePat t2 (1 + a) (1 + b) .no .no .no .no .no) :=
    asgM_of (evL_two (bin_O O_lit (O_e d1 rfl) (add_N 1 a)) (bin_O O_lit (O_e d2 rfl) (add_N 1 b))) rfl
  obtain ⟨t3, A, d3, ht3, hA, hr⟩ := rows_drawn (cf := cf) hd ht2 (w := 1 + a) (h := 1 + b) (by omega) (by omega)
  have s2 : exS cf W (.asg (.name 3) (.b1 .tuple eRowsE)) (ePat t2 (1 + a) (1 + b) .no .no .no .no .no) = some (.nx, ePat t3 (1 + a) (1 + b) (.val (patT A)) .no .no .no .no) := asg_of (tup_lst d3 rfl) rfl
  have oA : Ok (1 + b) (1 + a) A := ⟨hA, fun r h => (hr r h).1, fun r h => (hr r h).2, by omega, by omega, by omega, by omega⟩
  obtain ⟨c, t4, d4, hc, ht4⟩ := drawT (m := 3) hd ht3 (c := .lit (.int 3)) (rest := [.val (N (1 + a)), .val (N (1 + b)), .val (patT A), .no, .no, .no, .no]) lit_of (by omega) (by omega)
  have hc4 := cmp_O (cf := cf) (o := .eq) (y := .lit (N 0)) (O_e d4 rfl) O_lit (eq_N (a := c) (b := 0))
  by_cases hc0 : c = 0
  · rw [beq_iff_eq.2 hc0] at hc4
    have hf : evE cf (.bin .fdiv (.bin .add (.var 1) (.lit (.int 1))) (.lit (.int 2))) = evE cf (.bin .fdiv (.bin .add (.var 1) (.lit (.int 1))) (.lit (.int 2))) := rfl
    have l1 := lc_all (cf := cf) (x := .sl (.var 7) .no (.e (.bin .fdiv (.bin .add (.var 1) (.lit (.int 1))) (.lit (.int 2))))) (i := 7) (it := .own 3) (env := ePat t4 (1 + a) (1 + b) (.val (patT A)) .no .no .no .no) (g := D.str) (f := fun r => .str (r.take ((1 + a + 1) / 2))) (xs := A)
      (walk_v (d := patT A) rfl rfl) (by show 7 < 8; omega) rfl (lenOk_of (by omega)) rfl (fun r h => slTo_O (O_v rfl) (bin_O (O_e (bin_O (O_v (i := 1) rfl) O_lit (add_N (1 + a) 1)) rfl) (O_lit (d := N 2)) (div_N (by omega) (by omega))) (sl_to (by have := (hr r h).1; omega)))
    rw [map_rowsS] at l1
    have z1 : exS cf W (.asg (.name 4) (.b1 .tuple (.lc (.sl (.var 7) .no (.e (.bin .fdiv (.bin .add (.var 1) (.lit (.int 1))) (.lit (.int 2))))) (.name 7) (.own 3) [7] .no))) (ePat t4 (1 + a) (1 + b) (.val (patT A)) .no .no .no .no) = some (.nx, ePat t4 (1 + a) (1 + b) (.val (patT A)) (.val (patT (stN A ((1 + a + 1) / 2)))) .no .no .no) := asg_of (tup_lst l1 rfl) rfl
    have oH := ok_st oA (S := (1 + a + 1) / 2) (by omega) (by omega)
    have l2 := lc_all (cf := cf) (x := .sl (.bin .add (.var 7) (.rev (.var 7))) .no (.e (.lit (.int 8)))) (i := 7) (it := .own 4) (env := ePat t4 (1 + a) (1 + b) (.val (patT A)) (.val (patT (stN A ((1 + a + 1) / 2)))) .no .no .no) (g := D.str) (f := fun r => .str ((r ++ r.reverse).take 8)) (xs := stN A ((1 + a + 1) / 2))
      (walk_v (d := patT (stN A ((1 + a + 1) / 2))) rfl rfl) (by show 7 < 8; omega) rfl (lenOk_of (by rw [oH.len]; omega)) rfl (fun r h => by
        have := oH.row r h
        exact slTo_O (O_e (bin_O (O_v (i := 7) rfl) (O_e (rev_O (O_v (i := 7) rfl) (rev_str (by omega))) rfl) (add_str (by rw [List.length_reverse]; omega))) rfl) (lit_of (d := N 8)) (sl_to (by rw [List.length_append, List.length_reverse]; omega)))
    rw [map_rowsS (fun r => (r ++ r.reverse).take 8)] at l2
    have z2 : exS cf W (.asg (.name 3) (.b1 .tuple (.lc (.sl (.bin .add (.var 7) (.rev (.var 7))) .no (.e (.lit (.int 8)))) (.name 7) (.own 4) [7] .no))) (ePat t4 (1 + a) (1 + b) (.val (patT A)) (.val (patT (stN A ((1 + a + 1) / 2)))) .no .no .no) =
        some (.nx, ePat t4 (1 + a) (1 + b) (.val (patT ((stN A ((1 + a + 1) / 2)).map fun r => (r ++ r.reverse).take 8))) (.val (patT (stN A ((1 + a + 1) / 2)))) .no .no .no) := asg_of (tup_lst l2 rfl) rfl
    refine ⟨t4, (stN A ((1 + a + 1) / 2)).map fun r => (r ++ r.reverse).take 8, 1 + b, (1 + a + 1) / 2 + (1 + a + 1) / 2, ?_, ht4, ⟨by rw [List.length_map, oH.len], fun r h => ?_, fun r h c hc => ?_, by omega, by omega, by omega, by omega⟩, by omega, by omega⟩
    · exact runF_io (args := []) rfl ((exs_cons s1).trans ((exs_cons s2).trans ((exs_cons ((ife_T (T_b hc4 rfl)).trans ((exs_cons z1).trans ((exs_cons z2).trans exs_nil)))).trans (exs_ret (ret_of (ev_v rfl)))))) rfl
    · obtain ⟨s, hs, rfl⟩ := List.mem_map.1 h
      have := oH.row s hs
      rw [List.length_take, List.length_append, List.length_reverse]
      omega
    · obtain ⟨s, hs, rfl⟩ := List.mem_map.1 h
      rcases List.mem_append.1 (List.mem_of_mem_take hc) with h1 | h1
      · exact oH.sign s hs c h1
      · exact oH.sign s hs c (List.mem_reverse.1 h1)
  · rw [beq_eq_false_iff_ne.2 hc0] at hc4
    exact ⟨t4, A, 1 + b, 1 + a, runF_io (args := []) rfl ((exs_cons s1).trans ((exs_cons s2).trans ((exs_cons (ife_skip (T_b hc4 rfl))).trans (exs_ret (ret_of (ev_v rfl)))))) rfl, ht4, oA, by omega, by omega⟩
end Pat
end

section
/-! K59E: the law on patterns, walked. Plain Lean. -/
set_option autoImplicit false
set_option linter.all false
set_option maxRecDepth 100000
set_option maxHeartbeats 4000000
namespace Pat
open Cv Tape
variable {cf : CallF} {W : Nat}
def BLaw : CSs := (.cons (.asgO 1 (.callN 8 0 .nil)) (.cons (.asg (.name 2) (.callT 10 1 .nil)) (.cons (.asg (.tup [(.name 3), (.name 4), (.name 5), (.name 6), (.name 7), (.name 8)]) (.call 5 (.cons (.var 2) .nil))) (.cons (.asg (.name 9) (.tup (.cons (.var 3) (.cons (.var 4) (.cons (.var 5) (.cons (.var 6) (.cons (.var 7) (.cons (.var 8) .nil)))))))) (.cons (.asg (.name 10) (.b1 .len (.ix (.var 2) (.lit (.int 0))))) (.cons (.ife (.ort (.cmp .ne (.bin .mod (.b1 .int (.var 10)) (.var 4)) (.lit (.int 0))) (.ort (.cmp .ne (.call 2 (.cons (.var 2) .nil)) (.var 4)) (.ort (.cmp .isn (.call 7 (.cons (.var 2) (.cons (.var 9) .nil))) (.lit (.bl true))) (.cmp .ne (.call 1 (.cons (.var 2) (.cons (.var 4) .nil))) (.var 2))))) (.cons (.ret (.lit (.bl false))) .nil) .nil) (.cons (.asg (.name 11) (.b1 .tuple (.lc (.bin .add (.var 16) (.var 16)) (.name 16) (.own 2) [16] .no))) (.cons (.asg (.name 12) (.b1 .tuple (.lc (.join (.lit (.str [])) (.lc (.ite (.cmp .eq (.var 24) (.lit (.str [35]))) (.lit (.str [46])) (.lit (.str [35]))) (.name 24) (.own 16) [24] .no)) (.name 16) (.own 2) [16] .no))) (.cons (.asg (.name 13) (.b1 .tuple (.lc (.sl (.var 16) .no (.e (.var 4))) (.name 16) (.own 2) [16] .no))) (.cons (.for_ (.name 14) (.e (.tup (.cons (.var 11) (.cons (.var 12) (.cons (.var 13) .nil))))) (.cons (.ife (.ort (.cmp .ne (.call 5 (.cons (.var 14) .nil)) (.var 9)) (.cmp .ne (.call 2 (.cons (.var 14) .nil)) (.var 4))) (.cons (.ret (.lit (.bl false))) .nil) .nil) .nil)) (.cons (.asg (.name 15) (.lst .nil)) (.cons (.for_ (.name 16) (.own 2) (.cons (.asg (.name 15) (.bin .add (.var 15) (.lst (.cons (.var 16) (.cons (.var 16) .nil))))) .nil)) (.cons (.ife (.cmp .ne (.call 5 (.cons (.b1 .tuple (.var 15)) .nil)) (.var 9)) (.cons (.ret (.lit (.bl false))) .nil) .nil) (.cons (.asg (.name 17) (.bin .add (.var 2) (.call 4 (.cons (.var 2) .nil)))) (.cons (.ife (.cmp .ne (.call 5 (.cons (.var 17) .nil)) (.tup (.cons (.ite (.cmp .is (.var 5) (.lit .non)) (.lit (.str [112, 49, 49, 109])) (.lit (.str [112, 50, 109, 109]))) (.cons (.var 4) (.cons (.var 5) (.cons (.lit (.int 0)) (.cons (.var 5) (.cons (.lit .non) .nil)))))))) (.cons (.ret (.lit (.bl false))) .nil) .nil) (.cons (.ife (.cmp .eq (.bin .mod (.b1 .int (.var 4)) (.lit (.int 2))) (.lit (.int 0))) (.cons (.asg (.name 18) (.bin .fdiv (.var 4) (.lit (.int 2)))) (.cons (.asg (.name 19) (.bin .add (.var 2) (.call 1 (.cons (.call 4 (.cons (.var 2) .nil)) (.cons (.var 18) .nil))))) (.cons (.asg (.name 20) (.ite (.cmp .is (.var 5) (.lit .non)) (.lit .non) (.bin .mod (.b1 .int (.bin .add (.var 5) (.var 18))) (.var 4)))) (.cons (.ife (.cmp .ne (.call 5 (.cons (.var 19) .nil)) (.tup (.cons (.ite (.cmp .is (.var 5) (.lit .non)) (.lit (.str [112, 49, 49, 103])) (.lit (.str [112, 50, 109, 103]))) (.cons (.var 4) (.cons (.var 5) (.cons (.lit .non) (.cons (.var 20) (.cons (.var 18) .nil)))))))) (.cons (.ret (.lit (.bl false))) .nil) .nil) .nil)))) .nil) (.cons (.asg (.name 21) (.bin .add (.var 2) (.call 4 (.cons (.call 3 (.cons (.var 2) .nil)) .nil)))) (.cons (.asg (.name 14) (.call 5 (.cons (.var 21) .nil))) (.cons (.ife (.ort (.cmp .ne (.ix (.var 14) (.lit (.int 1))) (.var 4)) (.ort (.cmp .ne (.ix (.var 14) (.lit (.int 4))) (.lit (.int 0))) (.cmp .ne (.ix (.var 14) (.lit (.int 2))) (.ite (.andt (.cmp .isn (.var 5) (.lit .non)) (.cmp .eq (.bin .mod (.b1 .int (.bin .mul (.lit (.int 2)) (.var 5))) (.var 4)) (.lit (.int 0)))) (.var 5) (.lit .non))))) (.cons (.ret (.lit (.bl false))) .nil) .nil) (.cons (.ife (.ort (.cmp .ne (.cmp .is (.var 5) (.lit .non)) (.cmp .is (.ix (.call 5 (.cons (.call 3 (.cons (.var 2) .nil)) .nil)) (.lit (.int 2))) (.lit .non))) (.ort (.cmp .ne (.ix (.call 5 (.cons (.call 4 (.cons (.var 2) .nil)) .nil)) (.lit (.int 0))) (.var 3)) (.cmp .ne (.ix (.call 5 (.cons (.call 3 (.cons (.var 2) .nil)) .nil)) (.lit (.int 0))) (.var 3)))) (.cons (.ret (.lit (.bl false))) .nil) .nil) (.cons (.ife (.ort (.andt (.cmp .isn (.var 5) (.lit .non)) (.cmp .ne (.call 1 (.cons (.call 3 (.cons (.var 2) .nil)) (.cons (.var 5) .nil))) (.var 2))) (.andt (.cmp .isn (.var 7) (.lit .non)) (.cmp .ne (.call 1 (.cons (.call 4 (.cons (.call 3 (.cons (.var 2) .nil)) .nil)) (.cons (.var 7) .nil))) (.var 2)))) (.cons (.ret (.lit (.bl false))) .nil) .nil) (.cons (.ife (.ort (.andt (.cmp .isn (.var 6) (.lit .non)) (.cmp .ne (.call 4 (.cons (.var 2) .nil)) (.var 2))) (.ort (.andt (.cmp .isn (.var 8) (.lit .non)) (.cmp .ne (.call 1 (.cons (.call 4 (.cons (.var 2) .nil)) (.cons (.var 8) .nil))) (.var 2))) (.andt (.cmp .isn (.var 8) (.lit .non)) (.cmp .ne (.bin .mul (.lit (.int 2)) (.var 8)) (.var 4))))) (.cons (.ret (.lit (.bl false))) .nil) .nil) (.cons (.ife (.ort (.andt (.cmp .eq (.var 6) (.lit (.int 0))) (.cmp .ne (.var 7) (.var 5))) (.andt (.cmp .ne (.cmp .is (.var 5) (.lit .non)) (.cmp .is (.var 7) (.lit .non))) (.ort (.cmp .isn (.var 6) (.lit .non)) (.cmp .isn (.var 8) (.lit .non))))) (.cons (.ret (.lit (.bl false))) .nil) .nil) (.cons (.ife (.andt (.cmp .isn (.var 5) (.lit .non)) (.andt (.cmp .isn (.var 7) (.lit .non)) (.andt (.cmp .is (.var 6) (.lit .non)) (.cmp .is (.var 8) (.lit .non))))) (.cons (.ret (.lit (.bl false))) .nil) .nil) (.cons (.asg (.name 22) (.callT 9 1 (.cons (.bin .mul (.lit (.int 3)) (.var 10)) .nil))) (.cons (.asg (.name 23) (.call 5 (.cons (.call 1 (.cons (.var 2) (.cons (.var 22) .nil))) .nil))) (.cons (.asg (.name 20) (.lc (.ite (.cmp .is (.var 14) (.lit .non)) (.lit .non) (.bin .mod (.b1 .int (.bin .add (.var 14) (.bin .mul (.lit (.int 2)) (.var 22)))) (.var 4))) (.name 14) (.e (.tup (.cons (.var 5) (.cons (.var 7) .nil)))) [14] .no)) (.cons (.ret (.andt (.cmp .eq (.var 23) (.tup (.cons (.var 3) (.cons (.var 4) (.cons (.ix (.var 20) (.lit (.int 0))) (.cons (.var 6) (.cons (.ix (.var 20) (.lit (.int 1))) (.cons (.var 8) .nil)))))))) (.andt (.cmp .eq (.call 3 (.cons (.call 3 (.cons (.var 2) .nil)) .nil)) (.var 2)) (.cmp .eq (.call 4 (.cons (.call 4 (.cons (.var 2) .nil)) .nil)) (.var 2))))) .nil))))))))))))))))))))))))))))
def FLaw : CF := ⟨1, 25, .ro, BLaw⟩
abbrev eL (sc t : D) (A : Rows) (p : Pap) (w : Nat) (x11 x12 x13 x14 x15 x16 x17 x18 x19 x20 x21 x22 x23 : Sl) : Env :=
  [.ro sc, .own t, .val (patT A), .val (.str (nm p.level p.mirror p.turn p.glide)), .val (N p.step), .val (optD p.mirror), .val (levD p.level), .val (optD p.turn), .val (optD p.glide), .val (papD p), .val (N w), x11, x12, x13, x14, x15, x16, x17, x18, x19, x20, x21, x22, x23, .no]
abbrev retF : CSs := .cons (.ret (.lit (.bl false))) .nil
theorem is_opt (m : Option Nat) : cmpD .is (optD m) .non = some m.isNone := by cases m <;> rfl
theorem isn_opt (m : Option Nat) : cmpD .isn (optD m) .non = some m.isSome := by cases m <;> rfl
theorem is_lev (b : Bool) : cmpD .is (levD b) .non = some (!b) := by cases b <;> rfl
theorem isn_lev (b : Bool) : cmpD .isn (levD b) .non = some b := by cases b <;> rfl
theorem eq_lev (b : Bool) : cmpD .eq (levD b) (N 0) = some b := by cases b <;> rfl
theorem ne_opt (m : Option Nat) : cmpD .ne (optD m) (optD m) = some false := by
  cases m with
  | none => rfl
  | some n =>
    have h := ne_N (a := n) (b := n)
    rw [bne_self_eq_false] at h
    exact h
theorem ne_self (n : Nat) : cmpD .ne (N n) (N n) = some false := by
  have h := ne_N (a := n) (b := n)
  rw [bne_self_eq_false] at h
  exact h
theorem eq_self (n : Nat) : cmpD .eq (N n) (N n) = some true := by
  have h := eq_N (a := n) (b := n)
  rw [BEq.rfl] at h
  exact h
theorem ne_str (s : List Nat) : cmpD .ne (.str s) (.str s) = some false := by
  show (some (s == s)).map (!·) = _
  rw [BEq.rfl]
  rfl
theorem ne_same {A : Rows} (h : ∀ r ∈ A, Sg r) : cmpD .ne (patT A) (patT A) = some false := by
  rw [ne_rowsS h h, BEq.rfl]
  rfl
theorem eq_same {A : Rows} (h : ∀ r ∈ A, Sg r) : cmpD .eq (patT A) (patT A) = some true := by
  rw [eq_rows h h, BEq.rfl]
section
variable {k w : Nat} {A : Rows}
/-- all that the law asks, of the rows' paper -/
structure Facts (k w : Nat) (A : Rows) (p : Pap) : Prop where
  pos : 0 < p.step
  le : p.step ≤ w
  dvd : w % p.step = 0
  st : stepN w A = p.step
  self : shN A p.step = A
  tw : papN (w + w) (twN A) = p
  fl : papN w (flN A) = p
  sh : papN p.step (stN A p.step) = p
  th : papN w (thN A) = p
  stack : papN w (A ++ A.reverse) = ⟨p.step, p.mirror, true, p.mirror, none⟩
  moved : ∀ h, p.step = 2 * h → papN w (A ++ shN A.reverse h) = ⟨p.step, p.mirror, false, p.mirror.map (plus p.step h), some h⟩
  beside : (papN w (A ++ (acN A).reverse)).step = p.step ∧ (papN w (A ++ (acN A).reverse)).turn = some 0 ∧ (papN w (A ++ (acN A).reverse)).mirror = (match p.mirror with
      | none => none
      | some m => if 2 * m % p.step = 0 then some m else none)
  over : papN w A.reverse = p
  across : ((p.mirror = none ↔ (papN w (acN A)).mirror = none) ∧ p.level = (papN w (acN A)).level ∧ (p.turn = none ↔ (papN w (acN A)).turn = none) ∧ (p.glide = none ↔ (papN w (acN A)).glide = none))
  mi : ∀ m, p.mirror = some m → shN (acN A) m = A
  tu : ∀ m, p.turn = some m → shN (acN A).reverse m = A
  lv : p.level = true → A.reverse = A
  gl : ∀ g, p.glide = some g → shN A.reverse g = A ∧ 2 * g = p.step
  lt : p.level = true → p.turn = p.mirror
  gb : p.glide ≠ none → (p.mirror = none ↔ p.turn = none)
  bg : p.mirror ≠ none → p.turn ≠ none → p.level = true ∨ p.glide ≠ none
  bent : ∀ b, papN w (shN A b) = ⟨p.step, p.mirror.map (plus p.step (2 * b)), p.level, p.turn.map (plus p.step (2 * b)), p.glide⟩
theorem flip_inj {a b : Nat} (ha : a = 35 ∨ a = 46) (hb : b = 35 ∨ b = 46) (h : flip a = flip b) : a = b := by
  rcases ha with rfl | rfl <;> rcases hb with rfl | rfl <;> first | rfl | (exfalso; revert h; decide)
theorem fn_sign (o : Ok k w A) (x : Int) : ∀ c ∈ fnw w A x, c = 35 ∨ c = 46 := by
  intro c hc
  obtain ⟨r, hr, rfl⟩ := List.mem_map.1 hc
  obtain ⟨h1, _⟩ := emod_lt o.w0 x
  have hl := o.row r hr
  refine o.sign r hr _ ?_
  rw [List.getD_eq_getElem?_getD, List.getElem?_eq_getElem (by omega)]
  exact List.getElem_mem _
theorem mapflip_inj : ∀ {a b : List Nat}, (∀ c ∈ a, c = 35 ∨ c = 46) → (∀ c ∈ b, c = 35 ∨ c = 46) → a.map flip = b.map flip → a = b
  | [], [], _, _, _ => rfl
  | [], _ :: _, _, _, h => by cases h
  | _ :: _, [], _, _, h => by cases h
  | x :: a, y :: b, ha, hb, h => by
    rw [List.map_cons, List.map_cons, List.cons.injEq] at h
    rw [flip_inj (ha x List.mem_cons_self) (hb y List.mem_cons_self) h.1, mapflip_inj (fun c hc => ha c (List.mem_cons_of_mem _ hc)) (fun c hc => hb c (List.mem_cons_of_mem _ hc)) h.2]
theorem facts (o : Ok k w A) (hk : k ≤ 3) (hw : w ≤ 8) : Facts k w A (papN w A) := by
  have hp := papN_ok o
  obtain ⟨hs, hle, hd⟩ := stepN_ok o
  have kl : Len (fnw w A) k := fun x => by rw [fnw_len, o.len]
  have oac := ok_ac o
  have oov := ok_ov o
  have move_eq : ∀ {T : Rows} {m : Nat}, Ok k w T → IsMove (fnw w T) (fnw w A) (papN w A).step (some m) → shN T m = A := fun o2 h => (sh_iff o o2 _).2 ((h.2 _).2 ⟨0, by omega⟩)
  refine ⟨hs.1, hle, Nat.mod_eq_zero_of_dvd hd, rfl, (sh_iff o o _).2 ((hs.2 _).2 (Int.dvd_refl _)), ?_, ?_, ?_, ?_, ?_, ?_, ?_, ?_, ?_, ?_, ?_, ?_, ?_, ?_, ?_, ?_, ?_⟩
  · exact papN_is (ok_tw o hw) (fun x => fn_twice o.w0 o.row x) hp
  · refine papN_is (ok_fl o) (F := fun x => (fnw w A x).map flip) (fun x => fn_flip o.w0 o.row x) (pap_map (fun c => c.map flip) (fun x y => mapflip_inj (fn_sign o x) (fn_sign o y)) (fun x y => mapflip_inj (fun c hc => fn_sign o x c (List.mem_reverse.1 hc)) (fn_sign o y)) (fun x => (List.map_reverse ..).symm) (fun x => rfl) hp)
  · exact papN_is (ok_st o hs.1 hle) (fun x => fn_short hs.1 hle o.row hs x) hp
  · exact papN_is (ok_th o (by omega)) (F := fun x => dbl (fnw w A x)) (fun x => fn_thick x) (pap_map dbl (fun x y => dbl_inj) (fun x y => dbl_inj) (fun x => dbl_rev _) (fun x => rfl) hp)
  · exact papN_is (ok_app o oov (by omega)) (F := fun x => fnw w A x ++ (fnw w A x).reverse) (fun x => by rw [fn_app, fn_over]) (pap_stack kl (fun x => rfl) hp)
  · intro h hh
    exact papN_is (ok_app o (ok_sh oov h) (by omega)) (F := fun x => fnw w A x ++ (fnw w A (x + h)).reverse) (fun x => by rw [fn_app, fn_shift o.w0 oov.row, fn_over]) (pap_moved kl (fun x => rfl) hh hp)
  · have ob := ok_app o (ok_ov oac) (by omega)
    exact pap_beside kl (fun x => by rw [fn_app, fn_over, fn_across o.w0 o.row]) hp (papN_ok ob)
  · exact papN_is oov (F := fun x => (fnw w A x).reverse) (fun x => fn_over x) (pap_over (fun x => rfl) hp)
  · exact pap_across (fun x => fn_across o.w0 o.row x) hp (papN_ok oac)
  · intro m hm
    have := hp.mirror
    rw [hm, ← fn_ac' o] at this
    exact move_eq oac this
  · intro m hm
    have := hp.turn
    rw [hm, ← fn_ac' o, ← fn_ov'] at this
    exact move_eq (ok_ov oac) this
  · intro h
    exact beq_iff_eq.1 h
  · intro g hg
    refine ⟨?_, glide_half hp hg⟩
    have h1 := hp.glide
    have hl : ¬ (papN w A).level = true := fun hl => by
      rw [if_pos hl, hg] at h1
      cases h1
    rw [if_neg hl, hg, ← fn_ov'] at h1
    exact move_eq oov h1
  · exact fun h => lev_turn hp h
  · intro h
    cases hg : (papN w A).glide with
    | none => exact absurd hg h
    | some g => exact glide_both hp hg
  · intro h1 h2
    cases hm : (papN w A).mirror with
    | none => exact absurd hm h1
    | some m =>
      cases ht : (papN w A).turn with
      | none => exact absurd ht h2
      | some t => exact both_glide hp hm ht
  · intro b
    exact papN_is (ok_sh o b) (F := fun x => fnw w A (x + b)) (fun x => fn_shift o.w0 o.row x) (pap_shift (fun x => rfl) hp)
theorem nm_iff {lv : Bool} {a b c a' b' c' : Option Nat} (h1 : a = none ↔ a' = none) (h2 : b = none ↔ b' = none) (h3 : c = none ↔ c' = none) : nm lv a b c = nm lv a' b' c' := by
  have e : ∀ {x y : Option Nat}, (x = none ↔ y = none) → x.isSome = y.isSome := fun {x y} h => by
    cases x <;> cases y <;> simp at h <;> rfl
  unfold nm
  rw [e h1, e h2, e h3]
structure Base4 (cf : CallF) : Prop extends Base3 cf where
  takes : ∀ {k w A}, Ok k w A → ∃ o, cf 7 [patT A, papD (papN w A)] = some (.bl true, o)
theorem thick_go {sc t : D} {p : Pap} {x11 x12 x13 x14 x17 x18 x19 x20 x21 x22 x23 : Sl} : ∀ (l acc : Rows) (x16 : Sl), acc.length + 2 * l.length ≤ 1000 → St x16 →
    ∃ y16, St y16 ∧ forGo (.name 16) (exSs cf W (.cons (.asg (.name 15) (.bin .add (.var 15) (.lst (.cons (.var 16) (.cons (.var 16) .nil))))) .nil)) (rowsS l) (eL sc t A p w x11 x12 x13 x14 (.val (.lst (rowsS acc))) x16 x17 x18 x19 x20 x21 x22 x23) =
      some (.nx, eL sc t A p w x11 x12 x13 x14 (.val (.lst (rowsS (acc ++ thN l)))) y16 x17 x18 x19 x20 x21 x22 x23)
  | [], acc, x16, _, h => ⟨x16, h, by
    have : thN [] = [] := rfl
    rw [this, List.append_nil]
    rfl⟩
  | r :: l, acc, x16, hl, h => by
    rw [List.length_cons] at hl
    obtain ⟨y16, hy, ih⟩ := thick_go (sc := sc) (t := t) (p := p) (x11 := x11) (x12 := x12) (x13 := x13) (x14 := x14) (x17 := x17) (x18 := x18) (x19 := x19) (x20 := x20) (x21 := x21) (x22 := x22) (x23 := x23) l (acc ++ [r, r]) (.val (.str r)) (by rw [List.length_append]; simp only [List.length_cons, List.length_nil]; omega) St.val
    refine ⟨y16, hy, ?_⟩
    have h1 : asgT (.name 16) (.str r) (eL sc t A p w x11 x12 x13 x14 (.val (.lst (rowsS acc))) x16 x17 x18 x19 x20 x21 x22 x23) = some (eL sc t A p w x11 x12 x13 x14 (.val (.lst (rowsS acc))) (.val (.str r)) x17 x18 x19 x20 x21 x22 x23) := by
      rcases h with rfl | ⟨d, rfl⟩ <;> rfl
    have h2 : binD .add (.lst (rowsS acc)) (.lst [.str r, .str r]) = some (.lst (rowsS (acc ++ [r, r]))) := by
      show (if lenOk ((rowsS acc).length + 2) then some (D.lst (rowsS acc ++ [.str r, .str r])) else none) = _
      rw [rowsS_length, lenOk_of (by omega), if_pos rfl]
      unfold rowsS
      rw [List.map_append]
      rfl
    have h3 : exSs cf W (.cons (.asg (.name 15) (.bin .add (.var 15) (.lst (.cons (.var 16) (.cons (.var 16) .nil))))) .nil) (eL sc t A p w x11 x12 x13 x14 (.val (.lst (rowsS acc))) (.val (.str r)) x17 x18 x19 x20 x21 x22 x23) = some (.nx, eL sc t A p w x11 x12 x13 x14 (.val (.lst (rowsS (acc ++ [r, r])))) (.val (.str r)) x17 x18 x19 x20 x21 x22 x23) :=
      (exs_cons (asg_of (bin_O (O_v rfl) (O_e (lstE_of (evL_two (ev_v (d := .str r) rfl) (ev_v (d := .str r) rfl)) rfl) rfl) h2) rfl)).trans exs_nil
    show forGo _ _ (.str r :: rowsS l) _ = _
    simp only [forGo, h1, h3]
    rw [ih, List.append_assoc]
    rfl
theorem nm_map {lv : Bool} {a b c : Option Nat} {f : Nat → Nat} : nm lv (a.map f) (b.map f) c = nm lv a b c := by
  cases a <;> cases b <;> rfl
/-- a tuple that is a paper -/
theorem pap_tup {e1 e2 e3 e4 e5 e6 : CE} {env : Env} {p : Pap} (h1 : evE cf e1 env = some (.str (nm p.level p.mirror p.turn p.glide), env)) (h2 : evE cf e2 env = some (N p.step, env)) (h3 : evE cf e3 env = some (optD p.mirror, env)) (h4 : evE cf e4 env = some (levD p.level, env)) (h5 : evE cf e5 env = some (optD p.turn, env)) (h6 : evE cf e6 env = some (optD p.glide, env)) :
    evE cf (.tup (.cons e1 (.cons e2 (.cons e3 (.cons e4 (.cons e5 (.cons e6 .nil))))))) env = some (papD p, env) := tupE_of (evL_cons h1 (evL_cons h2 (evL_cons h3 (evL_cons h4 (evL_cons h5 (evL_cons h6 evL_nil)))))) rfl
/-- x if m is None else y -/
theorem ite_opt {a b : CE} {env : Env} {i : Nat} {m : Option Nat} {x y : D} (hi : env[i]? = some (.val (optD m))) (ha : evE cf a env = some (x, env)) (hb : evE cf b env = some (y, env)) : evE cf (.ite (.cmp .is (.var i) (.lit .non)) a b) env = some (if m.isNone then x else y, env) := by
  have c := cmp_O (cf := cf) (o := .is) (x := .var i) (y := .lit .non) (O_v hi) O_lit (is_opt m)
  cases m with
  | none => exact (ite_t (T_b c rfl)).trans ha
  | some n => exact (ite_f (T_b c rfl)).trans hb
/-- None if m is None else (m + c) % S -/
theorem plus_of {env : Env} {i j : Nat} {b : CE} {m : Option Nat} {S c : Nat} (hS : 0 < S) (hi : env[i]? = some (.val (optD m))) (hj : env[j]? = some (.val (N S))) (hb : O cf b env (N c) env) :
    evE cf (.ite (.cmp .is (.var i) (.lit .non)) (.lit .non) (.bin .mod (.b1 .int (.bin .add (.var i) b)) (.var j))) env = some (optD (m.map (plus S c)), env) := by
  have c0 := cmp_O (cf := cf) (o := .is) (x := .var i) (y := .lit .non) (O_v hi) O_lit (is_opt m)
  cases m with
  | none => exact (ite_t (T_b c0 rfl)).trans rfl
  | some n =>
    refine (ite_f (T_b c0 rfl)).trans ?_
    exact bin_O (O_e (b1_O (f := .int) (d := N (n + c)) (O_e (bin_O (O_v hi) hb (add_N n c)) rfl) rfl) rfl) (O_v hj) (mod_N hS)
theorem law_body (P : Base4 cf) (hd : Draws cf 9) (o : Ok k w A) (hk : k ≤ 3) (hw : w ≤ 8) {sc t0 t : D} (ht : TapeOk t) (h8 : cf 8 [sc] = some (t0, .non)) (ht0 : isObj t0 = true) (h10 : cf 10 [t0] = some (patT A, t)) : ∃ e, exSs cf W BLaw [.ro sc, .no, .no, .no, .no, .no, .no, .no, .no, .no, .no, .no, .no, .no, .no, .no, .no, .no, .no, .no, .no, .no, .no, .no, .no] = some (.rt (.bl true), e) := by
  have F := facts o hk hw
  have P3 := P.toBase3
  have P2 := P3.toBase2
  have P1 := P2.toBase
  obtain ⟨_, h7⟩ := P.takes o
  generalize hp : papN w A = p at F h7
  have oov := ok_ov o
  have oac := ok_ac o
  have s0 : exS cf W (.asgO 1 (.callN 8 0 .nil)) [.ro sc, .no, .no, .no, .no, .no, .no, .no, .no, .no, .no, .no, .no, .no, .no, .no, .no, .no, .no, .no, .no, .no, .no, .no, .no] = some (.nx, [.ro sc, .own t0, .no, .no, .no, .no, .no, .no, .no, .no, .no, .no, .no, .no, .no, .no, .no, .no, .no, .no, .no, .no, .no, .no, .no]) :=
    asgO_of (callN_of rfl evL_nil rfl h8) ht0 rfl
  have s1 : exS cf W (.asg (.name 2) (.callT 10 1 .nil)) [.ro sc, .own t0, .no, .no, .no, .no, .no, .no, .no, .no, .no, .no, .no, .no, .no, .no, .no, .no, .no, .no, .no, .no, .no, .no, .no] = some (.nx, [.ro sc, .own t, .val (patT A), .no, .no, .no, .no, .no, .no, .no, .no, .no, .no, .no, .no, .no, .no, .no, .no, .no, .no, .no, .no, .no, .no]) :=
    asg_of (callO_of (e1 := [.ro sc, .own t0, .no, .no, .no, .no, .no, .no, .no, .no, .no, .no, .no, .no, .no, .no, .no, .no, .no, .no, .no, .no, .no, .no, .no]) rfl evL_nil rfl h10) rfl
  have h5 := stripP P3 o (a := .var 2) (env := [.ro sc, .own t, .val (patT A), .no, .no, .no, .no, .no, .no, .no, .no, .no, .no, .no, .no, .no, .no, .no, .no, .no, .no, .no, .no, .no, .no]) (ev_v rfl)
  rw [hp] at h5
  have s2 : exS cf W (.asg (.tup [(.name 3), (.name 4), (.name 5), (.name 6), (.name 7), (.name 8)]) (.call 5 (.cons (.var 2) .nil))) [.ro sc, .own t, .val (patT A), .no, .no, .no, .no, .no, .no, .no, .no, .no, .no, .no, .no, .no, .no, .no, .no, .no, .no, .no, .no, .no, .no] =
      some (.nx, [.ro sc, .own t, .val (patT A), .val (.str (nm p.level p.mirror p.turn p.glide)), .val (N p.step), .val (optD p.mirror), .val (levD p.level), .val (optD p.turn), .val (optD p.glide), .no, .no, .no, .no, .no, .no, .no, .no, .no, .no, .no, .no, .no, .no, .no, .no]) := asg_of h5 rfl
  have s3 : exS cf W (.asg (.name 9) (.tup (.cons (.var 3) (.cons (.var 4) (.cons (.var 5) (.cons (.var 6) (.cons (.var 7) (.cons (.var 8) .nil)))))))) [.ro sc, .own t, .val (patT A), .val (.str (nm p.level p.mirror p.turn p.glide)), .val (N p.step), .val (optD p.mirror), .val (levD p.level), .val (optD p.turn), .val (optD p.glide), .no, .no, .no, .no, .no, .no, .no, .no, .no, .no, .no, .no, .no, .no, .no, .no] =
      some (.nx, [.ro sc, .own t, .val (patT A), .val (.str (nm p.level p.mirror p.turn p.glide)), .val (N p.step), .val (optD p.mirror), .val (levD p.level), .val (optD p.turn), .val (optD p.glide), .val (papD p), .no, .no, .no, .no, .no, .no, .no, .no, .no, .no, .no, .no, .no, .no, .no]) := asg_of (pap_tup (p := p) (ev_v rfl) (ev_v rfl) (ev_v rfl) (ev_v rfl) (ev_v rfl) (ev_v rfl)) rfl
  have s4 : exS cf W (.asg (.name 10) (.b1 .len (.ix (.var 2) (.lit (.int 0))))) [.ro sc, .own t, .val (patT A), .val (.str (nm p.level p.mirror p.turn p.glide)), .val (N p.step), .val (optD p.mirror), .val (levD p.level), .val (optD p.turn), .val (optD p.glide), .val (papD p), .no, .no, .no, .no, .no, .no, .no, .no, .no, .no, .no, .no, .no, .no, .no] = some (.nx, eL sc t A p w .no .no .no .no .no .no .no .no .no .no .no .no .no) := asg_of (wide_of o rfl) rfl
  have s5 : exS cf W (.ife (.ort (.cmp .ne (.bin .mod (.b1 .int (.var 10)) (.var 4)) (.lit (.int 0))) (.ort (.cmp .ne (.call 2 (.cons (.var 2) .nil)) (.var 4)) (.ort (.cmp .isn (.call 7 (.cons (.var 2) (.cons (.var 9) .nil))) (.lit (.bl true))) (.cmp .ne (.call 1 (.cons (.var 2) (.cons (.var 4) .nil))) (.var 2))))) retF .nil) (eL sc t A p w .no .no .no .no .no .no .no .no .no .no .no .no .no) = some (.nx, eL sc t A p w .no .no .no .no .no .no .no .no .no .no .no .no .no) := by
    have m1 := bin_O (cf := cf) (o := .mod) (env := eL sc t A p w .no .no .no .no .no .no .no .no .no .no .no .no .no) (x := .b1 .int (.var 10)) (y := .var 4) (O_e (int_v (i := (w : Int)) rfl) rfl) (O_v rfl) (mod_N (a := w) F.pos)
    rw [F.dvd] at m1
    have a1 := cmp_O (o := .ne) (y := .lit (N 0)) (O_e m1 rfl) O_lit (ne_self 0)
    have l2 := leastP P2 o (a := .var 2) (env := eL sc t A p w .no .no .no .no .no .no .no .no .no .no .no .no .no) (ev_v rfl)
    rw [F.st] at l2
    have a2 := cmp_O (o := .ne) (y := .var 4) (O_e l2 rfl) (O_v rfl) (ne_self p.step)
    have a3 := cmp_O (o := .isn) (y := .lit (.bl true)) (k := false) (O_e (call_of (cf := cf) (evL_two (ev_v (i := 2) (env := eL sc t A p w .no .no .no .no .no .no .no .no .no .no .no .no .no) rfl) (ev_v (i := 9) rfl)) h7) rfl) O_lit rfl
    have l4 := shiftP P1 o (a := .var 2) (b := .var 4) (n := p.step) (env := eL sc t A p w .no .no .no .no .no .no .no .no .no .no .no .no .no) (ev_v rfl) (ev_v rfl)
    rw [F.self] at l4
    have a4 := cmp_O (o := .ne) (y := .var 2) (O_e l4 rfl) (O_v rfl) (ne_same o.sg)
    exact ife_skip (T_b (ort_p a1 (ort_p a2 (ort_p a3 a4))) rfl)
  have hlA : lenOk A.length = true := lenOk_of (by have := o.len; omega)
  have s6 : exS cf W (.asg (.name 11) (.b1 .tuple (.lc (.bin .add (.var 16) (.var 16)) (.name 16) (.own 2) [16] .no))) (eL sc t A p w .no .no .no .no .no .no .no .no .no .no .no .no .no) = some (.nx, eL sc t A p w (.val (patT (twN A))) .no .no .no .no .no .no .no .no .no .no .no .no) := by
    have l1 := lc_all (cf := cf) (x := .bin .add (.var 16) (.var 16)) (i := 16) (it := .own 2) (env := eL sc t A p w .no .no .no .no .no .no .no .no .no .no .no .no .no) (g := D.str) (f := fun r => .str (r ++ r)) (xs := A) (walk_v (d := patT A) rfl rfl) (by show 16 < 25; omega) rfl hlA rfl (fun r hr => bin_O (O_v rfl) (O_v rfl) (add_str (by have := o.row r hr; omega)))
    rw [map_rowsS (fun r => r ++ r)] at l1
    exact asg_of (tup_lst l1 rfl) rfl
  have s7 : exS cf W (.asg (.name 12) (.b1 .tuple (.lc (.join (.lit (.str [])) (.lc (.ite (.cmp .eq (.var 24) (.lit (.str [35]))) (.lit (.str [46])) (.lit (.str [35]))) (.name 24) (.own 16) [24] .no)) (.name 16) (.own 2) [16] .no))) (eL sc t A p w (.val (patT (twN A))) .no .no .no .no .no .no .no .no .no .no .no .no) =
      some (.nx, eL sc t A p w (.val (patT (twN A))) (.val (patT (flN A))) .no .no .no .no .no .no .no .no .no .no .no) := by
    have l1 := lc_all (cf := cf) (x := .join (.lit (.str [])) (.lc (.ite (.cmp .eq (.var 24) (.lit (.str [35]))) (.lit (.str [46])) (.lit (.str [35]))) (.name 24) (.own 16) [24] .no)) (i := 16) (it := .own 2) (env := eL sc t A p w (.val (patT (twN A))) .no .no .no .no .no .no .no .no .no .no .no .no) (g := D.str) (f := fun r => .str (r.map flip)) (xs := A) (walk_v (d := patT A) rfl rfl) (by show 16 < 25; omega) rfl hlA rfl (fun r hr => by
      have l2 := lc_all (cf := cf) (x := .ite (.cmp .eq (.var 24) (.lit (.str [35]))) (.lit (.str [46])) (.lit (.str [35]))) (i := 24) (it := .own 16) (env := eL sc t A p w (.val (patT (twN A))) .no .no .no .no (.val (.str r)) .no .no .no .no .no .no .no) (g := fun c => D.str [c]) (f := fun c => .str [flip c]) (xs := r) (walk_v (d := .str r) rfl rfl) (by show 24 < 25; omega) rfl (lenOk_of (by have := o.row r hr; omega)) rfl (fun c hc => by
        rcases o.sign r hr c hc with rfl | rfl
        · exact (ite_t (T_b (cmp_O (a := .str [35]) (b := .str [35]) (k := true) (O_v rfl) O_lit rfl) rfl)).trans rfl
        · exact (ite_f (T_b (cmp_O (a := .str [46]) (b := .str [35]) (k := false) (O_v rfl) O_lit rfl) rfl)).trans rfl)
      have e : r.map (fun c => D.str [flip c]) = (r.map flip).map fun c => D.str [c] := by
        rw [List.map_map]
        rfl
      rw [e] at l2
      exact join_of l2 (by rw [List.length_map]; have := o.row r hr; omega))
    rw [map_rowsS (fun r => r.map flip)] at l1
    exact asg_of (tup_lst l1 rfl) rfl
  have s8 : exS cf W (.asg (.name 13) (.b1 .tuple (.lc (.sl (.var 16) .no (.e (.var 4))) (.name 16) (.own 2) [16] .no))) (eL sc t A p w (.val (patT (twN A))) (.val (patT (flN A))) .no .no .no .no .no .no .no .no .no .no .no) =
      some (.nx, eL sc t A p w (.val (patT (twN A))) (.val (patT (flN A))) (.val (patT (stN A p.step))) .no .no .no .no .no .no .no .no .no .no) := by
    have l1 := lc_all (cf := cf) (x := .sl (.var 16) .no (.e (.var 4))) (i := 16) (it := .own 2) (env := eL sc t A p w (.val (patT (twN A))) (.val (patT (flN A))) .no .no .no .no .no .no .no .no .no .no .no) (g := D.str) (f := fun r => .str (r.take p.step)) (xs := A) (walk_v (d := patT A) rfl rfl) (by show 16 < 25; omega) rfl hlA rfl (fun r hr => slTo_O (O_v rfl) (ev_v (i := 4) (d := N p.step) rfl) (sl_to (by have := o.row r hr; omega)))
    rw [map_rowsS (fun r => r.take p.step)] at l1
    exact asg_of (tup_lst l1 rfl) rfl
  obtain ⟨e2, s9, x14, k14, rfl⟩ := for_inv (cf := cf) (W := W) (tg := .name 14) (it := .e (.tup (.cons (.var 11) (.cons (.var 12) (.cons (.var 13) .nil))))) (b := .cons (.ife (.ort (.cmp .ne (.call 5 (.cons (.var 14) .nil)) (.var 9)) (.cmp .ne (.call 2 (.cons (.var 14) .nil)) (.var 4))) retF .nil) .nil)
    (E := fun e => ∃ x14, St x14 ∧ e = eL sc t A p w (.val (patT (twN A))) (.val (patT (flN A))) (.val (patT (stN A p.step))) x14 .no .no .no .no .no .no .no .no .no) (g := fun (q : Nat × Rows) => patT q.2) (xs := [(w + w, twN A), (w, flN A), (p.step, stN A p.step)])
    (env := eL sc t A p w (.val (patT (twN A))) (.val (patT (flN A))) (.val (patT (stN A p.step))) .no .no .no .no .no .no .no .no .no .no) rfl (fun _ => rfl) ⟨_, St.no, rfl⟩ (by
      rintro q hq _ ⟨x14, k14, rfl⟩
      have hq2 : Ok k q.1 q.2 ∧ papN q.1 q.2 = p := by
        simp only [List.mem_cons, List.not_mem_nil, or_false] at hq
        rcases hq with rfl | rfl | rfl
        · exact ⟨ok_tw o hw, F.tw⟩
        · exact ⟨ok_fl o, F.fl⟩
        · exact ⟨ok_st o F.pos F.le, F.sh⟩
      refine ⟨eL sc t A p w (.val (patT (twN A))) (.val (patT (flN A))) (.val (patT (stN A p.step))) (.val (patT q.2)) .no .no .no .no .no .no .no .no .no, eL sc t A p w (.val (patT (twN A))) (.val (patT (flN A))) (.val (patT (stN A p.step))) (.val (patT q.2)) .no .no .no .no .no .no .no .no .no, by rcases k14 with rfl | ⟨d, rfl⟩ <;> rfl, ?_, _, St.val, rfl⟩
      have b1 := stripP P3 hq2.1 (a := .var 14) (env := eL sc t A p w (.val (patT (twN A))) (.val (patT (flN A))) (.val (patT (stN A p.step))) (.val (patT q.2)) .no .no .no .no .no .no .no .no .no) (ev_v rfl)
      rw [hq2.2] at b1
      have b2 := leastP P2 hq2.1 (a := .var 14) (env := eL sc t A p w (.val (patT (twN A))) (.val (patT (flN A))) (.val (patT (stN A p.step))) (.val (patT q.2)) .no .no .no .no .no .no .no .no .no) (ev_v rfl)
      have e : stepN q.1 q.2 = p.step := by
        rw [← hq2.2]
        rfl
      rw [e] at b2
      exact (exs_cons (ife_skip (T_b (ort_p (cmp_O (o := .ne) (y := .var 9) (O_e b1 rfl) (O_v rfl) (ne_pap p)) (cmp_O (o := .ne) (y := .var 4) (O_e b2 rfl) (O_v rfl) (ne_self p.step))) rfl))).trans exs_nil)
  generalize Sl.val (patT (twN A)) = v11 at s6 s7 s8 s9
  generalize Sl.val (patT (flN A)) = v12 at s7 s8 s9
  generalize Sl.val (patT (stN A p.step)) = v13 at s8 s9
  have s10 : exS cf W (.asg (.name 15) (.lst .nil)) (eL sc t A p w v11 v12 v13 x14 .no .no .no .no .no .no .no .no .no) = some (.nx, eL sc t A p w v11 v12 v13 x14 (.val (.lst (rowsS []))) .no .no .no .no .no .no .no .no) := asg_of (lstE_of evL_nil rfl) rfl
  obtain ⟨y16, k16, f11⟩ := thick_go (cf := cf) (W := W) (sc := sc) (t := t) (A := A) (p := p) (w := w) (x11 := v11) (x12 := v12) (x13 := v13) (x14 := x14) (x17 := .no) (x18 := .no) (x19 := .no) (x20 := .no) (x21 := .no) (x22 := .no) (x23 := .no) A [] .no (by have := o.len; simp only [List.length_nil]; omega) St.no
  rw [List.nil_append] at f11
  have s11 := for_of (cf := cf) (W := W) (it := .own 2) (env := eL sc t A p w v11 v12 v13 x14 (.val (.lst (rowsS []))) .no .no .no .no .no .no .no .no) (walk_v (d := patT A) rfl rfl) f11 rfl
  have s12 : exS cf W (.ife (.cmp .ne (.call 5 (.cons (.b1 .tuple (.var 15)) .nil)) (.var 9)) retF .nil) (eL sc t A p w v11 v12 v13 x14 (.val (.lst (rowsS (thN A)))) y16 .no .no .no .no .no .no .no) = some (.nx, eL sc t A p w v11 v12 v13 x14 (.val (.lst (rowsS (thN A)))) y16 .no .no .no .no .no .no .no) := by
    have b1 := stripP P3 (ok_th o (by omega)) (a := .b1 .tuple (.var 15)) (env := eL sc t A p w v11 v12 v13 x14 (.val (.lst (rowsS (thN A)))) y16 .no .no .no .no .no .no .no) (b1_O (f := .tuple) (p := .lst (rowsS (thN A))) (O_v rfl) rfl)
    rw [F.th] at b1
    exact ife_skip (T_b (cmp_O (o := .ne) (y := .var 9) (O_e b1 rfl) (O_v rfl) (ne_pap p)) rfl)
  generalize Sl.val (.lst (rowsS (thN A))) = v15 at s11 s12
  have s13 : exS cf W (.asg (.name 17) (.bin .add (.var 2) (.call 4 (.cons (.var 2) .nil)))) (eL sc t A p w v11 v12 v13 x14 v15 y16 .no .no .no .no .no .no .no) = some (.nx, eL sc t A p w v11 v12 v13 x14 v15 y16 (.val (patT (A ++ A.reverse))) .no .no .no .no .no .no) :=
    asg_of (bin_O (O_v rfl) (O_e (Pat.overP P1 (ev_v (d := patT A) rfl)) rfl) (add_rows (by rw [List.length_reverse]; have := o.len; omega))) rfl
  have s14 : exS cf W (.ife (.cmp .ne (.call 5 (.cons (.var 17) .nil)) (.tup (.cons (.ite (.cmp .is (.var 5) (.lit .non)) (.lit (.str [112, 49, 49, 109])) (.lit (.str [112, 50, 109, 109]))) (.cons (.var 4) (.cons (.var 5) (.cons (.lit (.int 0)) (.cons (.var 5) (.cons (.lit .non) .nil)))))))) retF .nil) (eL sc t A p w v11 v12 v13 x14 v15 y16 (.val (patT (A ++ A.reverse))) .no .no .no .no .no .no) = some (.nx, eL sc t A p w v11 v12 v13 x14 v15 y16 (.val (patT (A ++ A.reverse))) .no .no .no .no .no .no) := by
    have b1 := stripP P3 (ok_app o oov (by omega)) (a := .var 17) (env := eL sc t A p w v11 v12 v13 x14 v15 y16 (.val (patT (A ++ A.reverse))) .no .no .no .no .no .no) (ev_v rfl)
    rw [F.stack] at b1
    have b2 := pap_tup (cf := cf) (e1 := .ite (.cmp .is (.var 5) (.lit .non)) (.lit (.str [112, 49, 49, 109])) (.lit (.str [112, 50, 109, 109]))) (e2 := .var 4) (e3 := .var 5) (e4 := .lit (.int 0)) (e5 := .var 5) (e6 := .lit .non) (env := eL sc t A p w v11 v12 v13 x14 v15 y16 (.val (patT (A ++ A.reverse))) .no .no .no .no .no .no) (p := ⟨p.step, p.mirror, true, p.mirror, none⟩)
      ((ite_opt (m := p.mirror) rfl lit_of lit_of).trans (by cases p.mirror <;> rfl)) (ev_v rfl) (ev_v rfl) rfl (ev_v rfl) rfl
    exact ife_skip (T_b (cmp_O (o := .ne) (O_e b1 rfl) (O_e b2 rfl) (ne_pap _)) rfl)
  generalize Sl.val (patT (A ++ A.reverse)) = v17 at s13 s14
  have s15 : ∃ x18 x19 x20, St x20 ∧ exS cf W (.ife (.cmp .eq (.bin .mod (.b1 .int (.var 4)) (.lit (.int 2))) (.lit (.int 0))) (.cons (.asg (.name 18) (.bin .fdiv (.var 4) (.lit (.int 2)))) (.cons (.asg (.name 19) (.bin .add (.var 2) (.call 1 (.cons (.call 4 (.cons (.var 2) .nil)) (.cons (.var 18) .nil))))) (.cons (.asg (.name 20) (.ite (.cmp .is (.var 5) (.lit .non)) (.lit .non) (.bin .mod (.b1 .int (.bin .add (.var 5) (.var 18))) (.var 4)))) (.cons (.ife (.cmp .ne (.call 5 (.cons (.var 19) .nil)) (.tup (.cons (.ite (.cmp .is (.var 5) (.lit .non)) (.lit (.str [112, 49, 49, 103])) (.lit (.str [112, 50, 109, 103]))) (.cons (.var 4) (.cons (.var 5) (.cons (.lit .non) (.cons (.var 20) (.cons (.var 18) .nil)))))))) retF .nil) .nil)))) .nil) (eL sc t A p w v11 v12 v13 x14 v15 y16 v17 .no .no .no .no .no .no) =
      some (.nx, eL sc t A p w v11 v12 v13 x14 v15 y16 v17 x18 x19 x20 .no .no .no) := by
    have m1 := bin_O (cf := cf) (o := .mod) (env := eL sc t A p w v11 v12 v13 x14 v15 y16 v17 .no .no .no .no .no .no) (x := .b1 .int (.var 4)) (y := .lit (N 2)) (O_e (int_v (i := (p.step : Int)) rfl) rfl) O_lit (mod_N (a := p.step) (b := 2) (by omega))
    have c := cmp_O (o := .eq) (y := .lit (N 0)) (O_e m1 rfl) O_lit (eq_N (a := p.step % 2) (b := 0))
    by_cases h2 : p.step % 2 = 0
    · rw [beq_iff_eq.2 h2] at c
      have hh : p.step = 2 * (p.step / 2) := by omega
      have M := F.moved (p.step / 2) hh
      have z1 : exS cf W (.asg (.name 18) (.bin .fdiv (.var 4) (.lit (.int 2)))) (eL sc t A p w v11 v12 v13 x14 v15 y16 v17 .no .no .no .no .no .no) = some (.nx, eL sc t A p w v11 v12 v13 x14 v15 y16 v17 (.val (N (p.step / 2))) .no .no .no .no .no) :=
        asg_of (bin_O (O_v rfl) (O_lit (d := N 2)) (div_N (a := p.step) (b := 2) (by omega) (by omega))) rfl
      generalize p.step / 2 = h at z1 M
      have z2 : exS cf W (.asg (.name 19) (.bin .add (.var 2) (.call 1 (.cons (.call 4 (.cons (.var 2) .nil)) (.cons (.var 18) .nil))))) (eL sc t A p w v11 v12 v13 x14 v15 y16 v17 (.val (N h)) .no .no .no .no .no) = some (.nx, eL sc t A p w v11 v12 v13 x14 v15 y16 v17 (.val (N h)) (.val (patT (A ++ shN A.reverse h))) .no .no .no .no) :=
        asg_of (bin_O (O_v rfl) (O_e (shiftP P1 oov (Pat.overP P1 (ev_v (d := patT A) rfl)) (ev_v rfl)) rfl) (add_rows (by rw [(ok_sh oov h).len]; have := o.len; omega))) rfl
      have z3 : exS cf W (.asg (.name 20) (.ite (.cmp .is (.var 5) (.lit .non)) (.lit .non) (.bin .mod (.b1 .int (.bin .add (.var 5) (.var 18))) (.var 4)))) (eL sc t A p w v11 v12 v13 x14 v15 y16 v17 (.val (N h)) (.val (patT (A ++ shN A.reverse h))) .no .no .no .no) = some (.nx, eL sc t A p w v11 v12 v13 x14 v15 y16 v17 (.val (N h)) (.val (patT (A ++ shN A.reverse h))) (.val (optD (p.mirror.map (plus p.step h)))) .no .no .no) :=
        asg_of (plus_of (m := p.mirror) (S := p.step) (c := h) F.pos rfl rfl (O_v rfl)) rfl
      have b1 := stripP P3 (ok_app o (ok_sh oov h) (by omega)) (a := .var 19) (env := eL sc t A p w v11 v12 v13 x14 v15 y16 v17 (.val (N h)) (.val (patT (A ++ shN A.reverse h))) (.val (optD (p.mirror.map (plus p.step h)))) .no .no .no) (ev_v rfl)
      rw [M] at b1
      have b2 := pap_tup (cf := cf) (e1 := .ite (.cmp .is (.var 5) (.lit .non)) (.lit (.str [112, 49, 49, 103])) (.lit (.str [112, 50, 109, 103]))) (e2 := .var 4) (e3 := .var 5) (e4 := .lit .non) (e5 := .var 20) (e6 := .var 18) (env := eL sc t A p w v11 v12 v13 x14 v15 y16 v17 (.val (N h)) (.val (patT (A ++ shN A.reverse h))) (.val (optD (p.mirror.map (plus p.step h)))) .no .no .no) (p := ⟨p.step, p.mirror, false, p.mirror.map (plus p.step h), some h⟩)
        ((ite_opt (m := p.mirror) rfl lit_of lit_of).trans (by cases p.mirror <;> rfl)) (ev_v rfl) (ev_v rfl) rfl (ev_v rfl) (ev_v rfl)
      have z4 := ife_skip (W := W) (a := retF) (T_b (cmp_O (o := .ne) (O_e b1 rfl) (O_e b2 rfl) (ne_pap _)) rfl)
      exact ⟨_, _, _, St.val, (ife_T (T_b c rfl)).trans ((exs_cons z1).trans ((exs_cons z2).trans ((exs_cons z3).trans ((exs_cons z4).trans exs_nil))))⟩
    · rw [beq_eq_false_iff_ne.2 h2] at c
      exact ⟨.no, .no, .no, St.no, ife_skip (T_b c rfl)⟩
  obtain ⟨x18, x19, x20, k20, s15⟩ := s15
  have s16 : exS cf W (.asg (.name 21) (.bin .add (.var 2) (.call 4 (.cons (.call 3 (.cons (.var 2) .nil)) .nil)))) (eL sc t A p w v11 v12 v13 x14 v15 y16 v17 x18 x19 x20 .no .no .no) = some (.nx, eL sc t A p w v11 v12 v13 x14 v15 y16 v17 x18 x19 x20 (.val (patT (A ++ (acN A).reverse))) .no .no) :=
    asg_of (bin_O (O_v rfl) (O_e (Pat.overP P1 (acrossP P1 o (ev_v rfl))) rfl) (add_rows (by rw [(ok_ov oac).len]; have := o.len; omega))) rfl
  have s17 : exS cf W (.asg (.name 14) (.call 5 (.cons (.var 21) .nil))) (eL sc t A p w v11 v12 v13 x14 v15 y16 v17 x18 x19 x20 (.val (patT (A ++ (acN A).reverse))) .no .no) = some (.nx, eL sc t A p w v11 v12 v13 (.val (papD (papN w (A ++ (acN A).reverse)))) v15 y16 v17 x18 x19 x20 (.val (patT (A ++ (acN A).reverse))) .no .no) :=
    asg_of (stripP P3 (ok_app o (ok_ov oac) (by omega)) (ev_v rfl)) (by rcases k14 with rfl | ⟨d, rfl⟩ <;> rfl)
  generalize Sl.val (patT (A ++ (acN A).reverse)) = v21 at s16 s17
  obtain ⟨q1, q2, q3⟩ := F.beside
  generalize papN w (A ++ (acN A).reverse) = q at s17 q1 q2 q3
  have s18 : exS cf W (.ife (.ort (.cmp .ne (.ix (.var 14) (.lit (.int 1))) (.var 4)) (.ort (.cmp .ne (.ix (.var 14) (.lit (.int 4))) (.lit (.int 0))) (.cmp .ne (.ix (.var 14) (.lit (.int 2))) (.ite (.andt (.cmp .isn (.var 5) (.lit .non)) (.cmp .eq (.bin .mod (.b1 .int (.bin .mul (.lit (.int 2)) (.var 5))) (.var 4)) (.lit (.int 0)))) (.var 5) (.lit .non))))) retF .nil) (eL sc t A p w v11 v12 v13 (.val (papD q)) v15 y16 v17 x18 x19 x20 v21 .no .no) = some (.nx, eL sc t A p w v11 v12 v13 (.val (papD q)) v15 y16 v17 x18 x19 x20 v21 .no .no) := by
    have i1 : evE cf (.ix (.var 14) (.lit (.int 1))) (eL sc t A p w v11 v12 v13 (.val (papD q)) v15 y16 v17 x18 x19 x20 v21 .no .no) = some (N q.step, eL sc t A p w v11 v12 v13 (.val (papD q)) v15 y16 v17 x18 x19 x20 v21 .no .no) := ix_O (O_v (d := papD q) rfl) (lit_of (d := N 1)) rfl
    have i4 : evE cf (.ix (.var 14) (.lit (.int 4))) (eL sc t A p w v11 v12 v13 (.val (papD q)) v15 y16 v17 x18 x19 x20 v21 .no .no) = some (optD q.turn, eL sc t A p w v11 v12 v13 (.val (papD q)) v15 y16 v17 x18 x19 x20 v21 .no .no) := ix_O (O_v (d := papD q) rfl) (lit_of (d := N 4)) rfl
    have i2 : evE cf (.ix (.var 14) (.lit (.int 2))) (eL sc t A p w v11 v12 v13 (.val (papD q)) v15 y16 v17 x18 x19 x20 v21 .no .no) = some (optD q.mirror, eL sc t A p w v11 v12 v13 (.val (papD q)) v15 y16 v17 x18 x19 x20 v21 .no .no) := ix_O (O_v (d := papD q) rfl) (lit_of (d := N 2)) rfl
    rw [q1] at i1
    rw [q2] at i4
    have i5 : evE cf (.ite (.andt (.cmp .isn (.var 5) (.lit .non)) (.cmp .eq (.bin .mod (.b1 .int (.bin .mul (.lit (.int 2)) (.var 5))) (.var 4)) (.lit (.int 0)))) (.var 5) (.lit .non)) (eL sc t A p w v11 v12 v13 (.val (papD q)) v15 y16 v17 x18 x19 x20 v21 .no .no) = some (optD q.mirror, eL sc t A p w v11 v12 v13 (.val (papD q)) v15 y16 v17 x18 x19 x20 v21 .no .no) := by
      have e5 : evE cf (.var 5) (eL sc t A p w v11 v12 v13 (.val (papD q)) v15 y16 v17 x18 x19 x20 v21 .no .no) = some (optD p.mirror, eL sc t A p w v11 v12 v13 (.val (papD q)) v15 y16 v17 x18 x19 x20 v21 .no .no) := ev_v rfl
      have o5 : O cf (.var 5) (eL sc t A p w v11 v12 v13 (.val (papD q)) v15 y16 v17 x18 x19 x20 v21 .no .no) (optD p.mirror) (eL sc t A p w v11 v12 v13 (.val (papD q)) v15 y16 v17 x18 x19 x20 v21 .no .no) := O_v rfl
      have o4 : O cf (.var 4) (eL sc t A p w v11 v12 v13 (.val (papD q)) v15 y16 v17 x18 x19 x20 v21 .no .no) (N p.step) (eL sc t A p w v11 v12 v13 (.val (papD q)) v15 y16 v17 x18 x19 x20 v21 .no .no) := O_v rfl
      generalize eL sc t A p w v11 v12 v13 (.val (papD q)) v15 y16 v17 x18 x19 x20 v21 .no .no = env at e5 o5 o4 ⊢
      have c0 := cmp_O (o := .isn) (y := .lit .non) o5 O_lit (isn_opt p.mirror)
      cases hm : p.mirror with
      | none =>
        rw [hm] at c0 q3
        rw [q3]
        exact (ite_f (T_b (andt_f c0) rfl)).trans rfl
      | some m =>
        rw [hm] at c0 q3 e5 o5
        have c1 := cmp_O (o := .eq) (y := .lit (N 0)) (O_e (bin_O (O_e (b1_O (f := .int) (d := N (2 * m)) (O_e (bin_O (O_lit (d := N 2)) o5 (mul_N2 (a := 2) (b := m) (by omega))) rfl) rfl) rfl) o4 (mod_N F.pos)) rfl) O_lit (eq_N (a := 2 * m % p.step) (b := 0))
        have c2 := T_b ((andt_t c0).trans c1) rfl
        have q3' : q.mirror = if 2 * m % p.step = 0 then some m else none := q3
        rw [q3']
        by_cases h2 : 2 * m % p.step = 0
        · rw [beq_iff_eq.2 h2] at c2
          rw [if_pos h2]
          exact (ite_t c2).trans e5
        · rw [beq_eq_false_iff_ne.2 h2] at c2
          rw [if_neg h2]
          exact (ite_f c2).trans rfl
    exact ife_skip (T_b (ort_p (cmp_O (o := .ne) (y := .var 4) (O_e i1 rfl) (O_v rfl) (ne_self _)) (ort_p (cmp_O (o := .ne) (y := .lit (N 0)) (O_e i4 rfl) O_lit (ne_self 0)) (cmp_O (o := .ne) (O_e i2 rfl) (O_e i5 rfl) (ne_opt _)))) rfl)
  generalize hv14 : Sl.val (papD q) = v14 at s17 s18
  have k14' : St v14 := by rw [← hv14]; exact St.val
  -- from now on the frame changes little
  have g2 : ∀ {x22 x23 y14 y20 : Sl}, evE cf (.var 2) (eL sc t A p w v11 v12 v13 y14 v15 y16 v17 x18 x19 y20 v21 x22 x23) = some (patT A, eL sc t A p w v11 v12 v13 y14 v15 y16 v17 x18 x19 y20 v21 x22 x23) := fun {_ _ _ _} => rfl
  have s19 : exS cf W (.ife (.ort (.cmp .ne (.cmp .is (.var 5) (.lit .non)) (.cmp .is (.ix (.call 5 (.cons (.call 3 (.cons (.var 2) .nil)) .nil)) (.lit (.int 2))) (.lit .non))) (.ort (.cmp .ne (.ix (.call 5 (.cons (.call 4 (.cons (.var 2) .nil)) .nil)) (.lit (.int 0))) (.var 3)) (.cmp .ne (.ix (.call 5 (.cons (.call 3 (.cons (.var 2) .nil)) .nil)) (.lit (.int 0))) (.var 3)))) retF .nil) (eL sc t A p w v11 v12 v13 v14 v15 y16 v17 x18 x19 x20 v21 .no .no) = some (.nx, eL sc t A p w v11 v12 v13 v14 v15 y16 v17 x18 x19 x20 v21 .no .no) := by
    have b1 := stripP P3 oac (acrossP P1 o (g2 (x22 := .no) (x23 := .no) (y14 := v14) (y20 := x20)))
    have b2 := stripP P3 oov (Pat.overP P1 (g2 (x22 := .no) (x23 := .no) (y14 := v14) (y20 := x20)))
    rw [F.over] at b2
    obtain ⟨n1, n2, n3, n4⟩ := F.across
    generalize papN w (acN A) = r at b1 n1 n2 n3 n4
    have j2 := ix_O (O_e b1 rfl) (lit_of (d := N 2)) (rfl : ixD (papD r) (N 2) = some (optD r.mirror))
    have j0 := ix_O (O_e b1 rfl) (lit_of (d := N 0)) (rfl : ixD (papD r) (N 0) = some (.str (nm r.level r.mirror r.turn r.glide)))
    have i0 := ix_O (O_e b2 rfl) (lit_of (d := N 0)) (rfl : ixD (papD p) (N 0) = some (.str (nm p.level p.mirror p.turn p.glide)))
    have en : nm r.level r.mirror r.turn r.glide = nm p.level p.mirror p.turn p.glide := by
      rw [← n2]
      exact (nm_iff n1 n3 n4).symm
    rw [en] at j0
    have o5 : O cf (.var 5) (eL sc t A p w v11 v12 v13 v14 v15 y16 v17 x18 x19 x20 v21 .no .no) (optD p.mirror) (eL sc t A p w v11 v12 v13 v14 v15 y16 v17 x18 x19 x20 v21 .no .no) := O_v rfl
    have o3 : O cf (.var 3) (eL sc t A p w v11 v12 v13 v14 v15 y16 v17 x18 x19 x20 v21 .no .no) (.str (nm p.level p.mirror p.turn p.glide)) (eL sc t A p w v11 v12 v13 v14 v15 y16 v17 x18 x19 x20 v21 .no .no) := O_v rfl
    have a1 := cmp_O (o := .ne) (O_e (cmp_O (o := .is) (y := .lit .non) o5 O_lit (is_opt p.mirror)) rfl) (O_e (cmp_O (o := .is) (y := .lit .non) (O_e j2 rfl) O_lit (is_opt r.mirror)) rfl) ne_B
    have eb : (p.mirror.isNone != r.mirror.isNone) = false := by
      cases hx : p.mirror <;> cases hy : r.mirror <;> rw [hx, hy] at n1 <;> simp at n1 <;> rfl
    rw [eb] at a1
    exact ife_skip (T_b (ort_p a1 (ort_p (cmp_O (o := .ne) (O_e i0 rfl) o3 (ne_str _)) (cmp_O (o := .ne) (O_e j0 rfl) o3 (ne_str _)))) rfl)
  -- a condition that holds of what is there
  have cond : ∀ {i : Nat} {m : Option Nat} {T : Rows} {x : CE} {env : Env}, env[i]? = some (.val (optD m)) → env[(2 : Nat)]? = some (.val (patT A)) → (∀ n, m = some n → env[i]? = some (.val (N n)) → evE cf x env = some (patT A, env)) → evE cf (.andt (.cmp .isn (.var i) (.lit .non)) (.cmp .ne x (.var 2))) env = some (.bl false, env) ∨ nvar x = false := by
    intro i m T x env hi h2 hx
    cases hn : nvar x with
    | false => exact .inr rfl
    | true =>
      left
      have c0 := cmp_O (cf := cf) (o := .isn) (x := .var i) (y := .lit .non) (O_v hi) O_lit (isn_opt m)
      cases m with
      | none => exact andt_f c0
      | some n => exact (andt_t c0).trans (cmp_O (o := .ne) (O_e (hx n rfl hi) hn) (O_v h2) (ne_same o.sg))
  have s20 : exS cf W (.ife (.ort (.andt (.cmp .isn (.var 5) (.lit .non)) (.cmp .ne (.call 1 (.cons (.call 3 (.cons (.var 2) .nil)) (.cons (.var 5) .nil))) (.var 2))) (.andt (.cmp .isn (.var 7) (.lit .non)) (.cmp .ne (.call 1 (.cons (.call 4 (.cons (.call 3 (.cons (.var 2) .nil)) .nil)) (.cons (.var 7) .nil))) (.var 2)))) retF .nil) (eL sc t A p w v11 v12 v13 v14 v15 y16 v17 x18 x19 x20 v21 .no .no) = some (.nx, eL sc t A p w v11 v12 v13 v14 v15 y16 v17 x18 x19 x20 v21 .no .no) := by
    have a1 := (cond (i := 5) (m := p.mirror) (T := A) (x := .call 1 (.cons (.call 3 (.cons (.var 2) .nil)) (.cons (.var 5) .nil))) (env := eL sc t A p w v11 v12 v13 v14 v15 y16 v17 x18 x19 x20 v21 .no .no) rfl rfl (fun n hn h => by
      have := shiftP P1 oac (acrossP P1 o (g2 (x22 := .no) (x23 := .no) (y14 := v14) (y20 := x20))) (ev_v h)
      rw [F.mi n hn] at this
      exact this)).resolve_right (by simp [nvar])
    have a2 := (cond (i := 7) (m := p.turn) (T := A) (x := .call 1 (.cons (.call 4 (.cons (.call 3 (.cons (.var 2) .nil)) .nil)) (.cons (.var 7) .nil))) (env := eL sc t A p w v11 v12 v13 v14 v15 y16 v17 x18 x19 x20 v21 .no .no) rfl rfl (fun n hn h => by
      have := shiftP P1 (ok_ov oac) (Pat.overP P1 (acrossP P1 o (g2 (x22 := .no) (x23 := .no) (y14 := v14) (y20 := x20)))) (ev_v h)
      rw [F.tu n hn] at this
      exact this)).resolve_right (by simp [nvar])
    exact ife_skip (T_b (ort_p a1 a2) rfl)
  have s21 : exS cf W (.ife (.ort (.andt (.cmp .isn (.var 6) (.lit .non)) (.cmp .ne (.call 4 (.cons (.var 2) .nil)) (.var 2))) (.ort (.andt (.cmp .isn (.var 8) (.lit .non)) (.cmp .ne (.call 1 (.cons (.call 4 (.cons (.var 2) .nil)) (.cons (.var 8) .nil))) (.var 2))) (.andt (.cmp .isn (.var 8) (.lit .non)) (.cmp .ne (.bin .mul (.lit (.int 2)) (.var 8)) (.var 4))))) retF .nil) (eL sc t A p w v11 v12 v13 v14 v15 y16 v17 x18 x19 x20 v21 .no .no) = some (.nx, eL sc t A p w v11 v12 v13 v14 v15 y16 v17 x18 x19 x20 v21 .no .no) := by
    have o6 : O cf (.var 6) (eL sc t A p w v11 v12 v13 v14 v15 y16 v17 x18 x19 x20 v21 .no .no) (levD p.level) (eL sc t A p w v11 v12 v13 v14 v15 y16 v17 x18 x19 x20 v21 .no .no) := O_v rfl
    have o8 : O cf (.var 8) (eL sc t A p w v11 v12 v13 v14 v15 y16 v17 x18 x19 x20 v21 .no .no) (optD p.glide) (eL sc t A p w v11 v12 v13 v14 v15 y16 v17 x18 x19 x20 v21 .no .no) := O_v rfl
    have o4 : O cf (.var 4) (eL sc t A p w v11 v12 v13 v14 v15 y16 v17 x18 x19 x20 v21 .no .no) (N p.step) (eL sc t A p w v11 v12 v13 v14 v15 y16 v17 x18 x19 x20 v21 .no .no) := O_v rfl
    have o2 : O cf (.var 2) (eL sc t A p w v11 v12 v13 v14 v15 y16 v17 x18 x19 x20 v21 .no .no) (patT A) (eL sc t A p w v11 v12 v13 v14 v15 y16 v17 x18 x19 x20 v21 .no .no) := O_v rfl
    have b4 := Pat.overP P1 (g2 (x22 := .no) (x23 := .no) (y14 := v14) (y20 := x20))
    have a1 : evE cf (.andt (.cmp .isn (.var 6) (.lit .non)) (.cmp .ne (.call 4 (.cons (.var 2) .nil)) (.var 2))) (eL sc t A p w v11 v12 v13 v14 v15 y16 v17 x18 x19 x20 v21 .no .no) = some (.bl false, eL sc t A p w v11 v12 v13 v14 v15 y16 v17 x18 x19 x20 v21 .no .no) := by
      have c0 := cmp_O (o := .isn) (y := .lit .non) o6 O_lit (isn_lev p.level)
      cases hl : p.level with
      | false =>
        rw [hl] at c0
        exact andt_f c0
      | true =>
        rw [hl] at c0
        rw [F.lv hl] at b4
        exact (andt_t c0).trans (cmp_O (o := .ne) (O_e b4 rfl) o2 (ne_same o.sg))
    have a2 := (cond (i := 8) (m := p.glide) (T := A) (x := .call 1 (.cons (.call 4 (.cons (.var 2) .nil)) (.cons (.var 8) .nil))) (env := eL sc t A p w v11 v12 v13 v14 v15 y16 v17 x18 x19 x20 v21 .no .no) rfl rfl (fun n hn h => by
      have := shiftP P1 oov (Pat.overP P1 (g2 (x22 := .no) (x23 := .no) (y14 := v14) (y20 := x20))) (ev_v h)
      rw [(F.gl n hn).1] at this
      exact this)).resolve_right (by simp [nvar])
    have a3 : evE cf (.andt (.cmp .isn (.var 8) (.lit .non)) (.cmp .ne (.bin .mul (.lit (.int 2)) (.var 8)) (.var 4))) (eL sc t A p w v11 v12 v13 v14 v15 y16 v17 x18 x19 x20 v21 .no .no) = some (.bl false, eL sc t A p w v11 v12 v13 v14 v15 y16 v17 x18 x19 x20 v21 .no .no) := by
      have c0 := cmp_O (o := .isn) (y := .lit .non) o8 O_lit (isn_opt p.glide)
      cases hg : p.glide with
      | none =>
        rw [hg] at c0
        exact andt_f c0
      | some g =>
        rw [hg] at c0 o8
        have m2 := bin_O (O_lit (d := N 2)) o8 (mul_N2 (a := 2) (b := g) (by omega))
        rw [(F.gl g hg).2] at m2
        exact (andt_t c0).trans (cmp_O (o := .ne) (O_e m2 rfl) o4 (ne_self _))
    exact ife_skip (T_b (ort_p a1 (ort_p a2 a3)) rfl)
  have s22 : exS cf W (.ife (.ort (.andt (.cmp .eq (.var 6) (.lit (.int 0))) (.cmp .ne (.var 7) (.var 5))) (.andt (.cmp .ne (.cmp .is (.var 5) (.lit .non)) (.cmp .is (.var 7) (.lit .non))) (.ort (.cmp .isn (.var 6) (.lit .non)) (.cmp .isn (.var 8) (.lit .non))))) retF .nil) (eL sc t A p w v11 v12 v13 v14 v15 y16 v17 x18 x19 x20 v21 .no .no) = some (.nx, eL sc t A p w v11 v12 v13 v14 v15 y16 v17 x18 x19 x20 v21 .no .no) := by
    have o5 : O cf (.var 5) (eL sc t A p w v11 v12 v13 v14 v15 y16 v17 x18 x19 x20 v21 .no .no) (optD p.mirror) (eL sc t A p w v11 v12 v13 v14 v15 y16 v17 x18 x19 x20 v21 .no .no) := O_v rfl
    have o6 : O cf (.var 6) (eL sc t A p w v11 v12 v13 v14 v15 y16 v17 x18 x19 x20 v21 .no .no) (levD p.level) (eL sc t A p w v11 v12 v13 v14 v15 y16 v17 x18 x19 x20 v21 .no .no) := O_v rfl
    have o7 : O cf (.var 7) (eL sc t A p w v11 v12 v13 v14 v15 y16 v17 x18 x19 x20 v21 .no .no) (optD p.turn) (eL sc t A p w v11 v12 v13 v14 v15 y16 v17 x18 x19 x20 v21 .no .no) := O_v rfl
    have o8 : O cf (.var 8) (eL sc t A p w v11 v12 v13 v14 v15 y16 v17 x18 x19 x20 v21 .no .no) (optD p.glide) (eL sc t A p w v11 v12 v13 v14 v15 y16 v17 x18 x19 x20 v21 .no .no) := O_v rfl
    have a1 : evE cf (.andt (.cmp .eq (.var 6) (.lit (.int 0))) (.cmp .ne (.var 7) (.var 5))) (eL sc t A p w v11 v12 v13 v14 v15 y16 v17 x18 x19 x20 v21 .no .no) = some (.bl false, eL sc t A p w v11 v12 v13 v14 v15 y16 v17 x18 x19 x20 v21 .no .no) := by
      have c0 := cmp_O (o := .eq) (y := .lit (N 0)) o6 O_lit (eq_lev p.level)
      cases hl : p.level with
      | false =>
        rw [hl] at c0
        exact andt_f c0
      | true =>
        rw [hl] at c0
        rw [F.lt hl] at o7
        exact (andt_t c0).trans (cmp_O (o := .ne) o7 o5 (ne_opt _))
    have a2 := andt_p (cmp_O (o := .ne) (O_e (cmp_O (o := .is) (y := .lit .non) o5 O_lit (is_opt p.mirror)) rfl) (O_e (cmp_O (o := .is) (y := .lit .non) o7 O_lit (is_opt p.turn)) rfl) ne_B) (ort_p (cmp_O (o := .isn) (y := .lit .non) o6 O_lit (isn_lev p.level)) (cmp_O (o := .isn) (y := .lit .non) o8 O_lit (isn_opt p.glide)))
    have e : ((p.mirror.isNone != p.turn.isNone) && (p.level || p.glide.isSome)) = false := by
      cases hl : p.level with
      | true =>
        rw [F.lt hl, bne_self_b]
        rfl
      | false =>
        cases hg : p.glide with
        | none => simp
        | some g =>
          have := F.gb (by rw [hg]; simp)
          cases hx : p.mirror <;> cases hy : p.turn <;> rw [hx, hy] at this <;> simp at this <;> rfl
    rw [e] at a2
    exact ife_skip (T_b (ort_p a1 a2) rfl)
  have s23 : exS cf W (.ife (.andt (.cmp .isn (.var 5) (.lit .non)) (.andt (.cmp .isn (.var 7) (.lit .non)) (.andt (.cmp .is (.var 6) (.lit .non)) (.cmp .is (.var 8) (.lit .non))))) retF .nil) (eL sc t A p w v11 v12 v13 v14 v15 y16 v17 x18 x19 x20 v21 .no .no) = some (.nx, eL sc t A p w v11 v12 v13 v14 v15 y16 v17 x18 x19 x20 v21 .no .no) := by
    have o5 : O cf (.var 5) (eL sc t A p w v11 v12 v13 v14 v15 y16 v17 x18 x19 x20 v21 .no .no) (optD p.mirror) (eL sc t A p w v11 v12 v13 v14 v15 y16 v17 x18 x19 x20 v21 .no .no) := O_v rfl
    have o6 : O cf (.var 6) (eL sc t A p w v11 v12 v13 v14 v15 y16 v17 x18 x19 x20 v21 .no .no) (levD p.level) (eL sc t A p w v11 v12 v13 v14 v15 y16 v17 x18 x19 x20 v21 .no .no) := O_v rfl
    have o7 : O cf (.var 7) (eL sc t A p w v11 v12 v13 v14 v15 y16 v17 x18 x19 x20 v21 .no .no) (optD p.turn) (eL sc t A p w v11 v12 v13 v14 v15 y16 v17 x18 x19 x20 v21 .no .no) := O_v rfl
    have o8 : O cf (.var 8) (eL sc t A p w v11 v12 v13 v14 v15 y16 v17 x18 x19 x20 v21 .no .no) (optD p.glide) (eL sc t A p w v11 v12 v13 v14 v15 y16 v17 x18 x19 x20 v21 .no .no) := O_v rfl
    have a := andt_p (cmp_O (o := .isn) (y := .lit .non) o5 O_lit (isn_opt p.mirror)) (andt_p (cmp_O (o := .isn) (y := .lit .non) o7 O_lit (isn_opt p.turn)) (andt_p (cmp_O (o := .is) (y := .lit .non) o6 O_lit (is_lev p.level)) (cmp_O (o := .is) (y := .lit .non) o8 O_lit (is_opt p.glide))))
    have e : (p.mirror.isSome && (p.turn.isSome && ((!p.level) && p.glide.isNone))) = false := by
      cases hx : p.mirror with
      | none => rfl
      | some m =>
        cases hy : p.turn with
        | none => rfl
        | some n =>
          rcases F.bg (by rw [hx]; simp) (by rw [hy]; simp) with h | h
          · rw [h]
            rfl
          · cases hg : p.glide with
            | none => exact absurd hg h
            | some g => simp
    rw [e] at a
    exact ife_skip (T_b a rfl)
  obtain ⟨b, t2, d2, hb, ht2⟩ := hd t (3 * w) ht (by have := o.w1; omega) (by omega)
  have m3 : evE cf (.bin .mul (.lit (.int 3)) (.var 10)) (eL sc t A p w v11 v12 v13 v14 v15 y16 v17 x18 x19 x20 v21 .no .no) = some (N (3 * w), eL sc t A p w v11 v12 v13 v14 v15 y16 v17 x18 x19 x20 v21 .no .no) := bin_O (O_lit (d := N 3)) (O_v rfl) (mul_N2 (a := 3) (b := w) (by omega))
  have s24 : exS cf W (.asg (.name 22) (.callT 9 1 (.cons (.bin .mul (.lit (.int 3)) (.var 10)) .nil))) (eL sc t A p w v11 v12 v13 v14 v15 y16 v17 x18 x19 x20 v21 .no .no) = some (.nx, eL sc t2 A p w v11 v12 v13 v14 v15 y16 v17 x18 x19 x20 v21 (.val (N b)) .no) := asg_of (callO_of rfl (evL_one m3) rfl d2) rfl
  have b25 := stripP P3 (ok_sh o b) (shiftP P1 o (a := .var 2) (b := .var 22) (n := b) (env := eL sc t2 A p w v11 v12 v13 v14 v15 y16 v17 x18 x19 x20 v21 (.val (N b)) .no) (ev_v rfl) (ev_v rfl))
  rw [F.bent b] at b25
  have s25 : exS cf W (.asg (.name 23) (.call 5 (.cons (.call 1 (.cons (.var 2) (.cons (.var 22) .nil))) .nil))) (eL sc t2 A p w v11 v12 v13 v14 v15 y16 v17 x18 x19 x20 v21 (.val (N b)) .no) = some (.nx, eL sc t2 A p w v11 v12 v13 v14 v15 y16 v17 x18 x19 x20 v21 (.val (N b)) (.val (papD ⟨p.step, p.mirror.map (plus p.step (2 * b)), p.level, p.turn.map (plus p.step (2 * b)), p.glide⟩))) := asg_of b25 rfl
  have l26 := lc_all (cf := cf) (x := .ite (.cmp .is (.var 14) (.lit .non)) (.lit .non) (.bin .mod (.b1 .int (.bin .add (.var 14) (.bin .mul (.lit (.int 2)) (.var 22)))) (.var 4))) (i := 14) (it := .e (.tup (.cons (.var 5) (.cons (.var 7) .nil)))) (env := eL sc t2 A p w v11 v12 v13 v14 v15 y16 v17 x18 x19 x20 v21 (.val (N b)) (.val (papD ⟨p.step, p.mirror.map (plus p.step (2 * b)), p.level, p.turn.map (plus p.step (2 * b)), p.glide⟩)))
    (g := optD) (f := fun m => optD (m.map (plus p.step (2 * b)))) (xs := [p.mirror, p.turn]) rfl (by show 14 < 25; omega) (by rcases k14' with rfl | ⟨d, rfl⟩ <;> rfl) rfl rfl (fun m hm => plus_of (m := m) (S := p.step) (c := 2 * b) F.pos rfl rfl (O_e (bin_O (O_lit (d := N 2)) (O_v (i := 22) rfl) (mul_N2 (a := 2) (b := b) (by omega))) rfl))
  have s26 : exS cf W (.asg (.name 20) (.lc (.ite (.cmp .is (.var 14) (.lit .non)) (.lit .non) (.bin .mod (.b1 .int (.bin .add (.var 14) (.bin .mul (.lit (.int 2)) (.var 22)))) (.var 4))) (.name 14) (.e (.tup (.cons (.var 5) (.cons (.var 7) .nil)))) [14] .no)) (eL sc t2 A p w v11 v12 v13 v14 v15 y16 v17 x18 x19 x20 v21 (.val (N b)) (.val (papD ⟨p.step, p.mirror.map (plus p.step (2 * b)), p.level, p.turn.map (plus p.step (2 * b)), p.glide⟩))) =
      some (.nx, eL sc t2 A p w v11 v12 v13 v14 v15 y16 v17 x18 x19 (.val (.lst [optD (p.mirror.map (plus p.step (2 * b))), optD (p.turn.map (plus p.step (2 * b)))])) v21 (.val (N b)) (.val (papD ⟨p.step, p.mirror.map (plus p.step (2 * b)), p.level, p.turn.map (plus p.step (2 * b)), p.glide⟩))) :=
    asg_of l26 (by rcases k20 with rfl | ⟨d, rfl⟩ <;> rfl)
  have s27 : evE cf (.andt (.cmp .eq (.var 23) (.tup (.cons (.var 3) (.cons (.var 4) (.cons (.ix (.var 20) (.lit (.int 0))) (.cons (.var 6) (.cons (.ix (.var 20) (.lit (.int 1))) (.cons (.var 8) .nil)))))))) (.andt (.cmp .eq (.call 3 (.cons (.call 3 (.cons (.var 2) .nil)) .nil)) (.var 2)) (.cmp .eq (.call 4 (.cons (.call 4 (.cons (.var 2) .nil)) .nil)) (.var 2)))) (eL sc t2 A p w v11 v12 v13 v14 v15 y16 v17 x18 x19 (.val (.lst [optD (p.mirror.map (plus p.step (2 * b))), optD (p.turn.map (plus p.step (2 * b)))])) v21 (.val (N b)) (.val (papD ⟨p.step, p.mirror.map (plus p.step (2 * b)), p.level, p.turn.map (plus p.step (2 * b)), p.glide⟩))) =
      some (.bl true, eL sc t2 A p w v11 v12 v13 v14 v15 y16 v17 x18 x19 (.val (.lst [optD (p.mirror.map (plus p.step (2 * b))), optD (p.turn.map (plus p.step (2 * b)))])) v21 (.val (N b)) (.val (papD ⟨p.step, p.mirror.map (plus p.step (2 * b)), p.level, p.turn.map (plus p.step (2 * b)), p.glide⟩))) := by
    have hn : nm p.level p.mirror p.turn p.glide = nm p.level (p.mirror.map (plus p.step (2 * b))) (p.turn.map (plus p.step (2 * b))) p.glide := nm_map.symm
    have g3 : ∀ env : Env, env[(3 : Nat)]? = some (.val (.str (nm p.level p.mirror p.turn p.glide))) → evE cf (.var 3) env = some (.str (nm p.level (p.mirror.map (plus p.step (2 * b))) (p.turn.map (plus p.step (2 * b))) p.glide), env) := fun env h => by
      rw [hn] at h
      exact ev_v h
    have g1 := Pat.overP P1 (Pat.overP P1 (ev_v (cf := cf) (i := 2) (d := patT A) (env := eL sc t2 A p w v11 v12 v13 v14 v15 y16 v17 x18 x19 (.val (.lst [optD (p.mirror.map (plus p.step (2 * b))), optD (p.turn.map (plus p.step (2 * b)))])) v21 (.val (N b)) (.val (papD ⟨p.step, p.mirror.map (plus p.step (2 * b)), p.level, p.turn.map (plus p.step (2 * b)), p.glide⟩))) rfl))
    have g0 := acrossP P1 oac (acrossP P1 o (ev_v (cf := cf) (i := 2) (d := patT A) (env := eL sc t2 A p w v11 v12 v13 v14 v15 y16 v17 x18 x19 (.val (.lst [optD (p.mirror.map (plus p.step (2 * b))), optD (p.turn.map (plus p.step (2 * b)))])) v21 (.val (N b)) (.val (papD ⟨p.step, p.mirror.map (plus p.step (2 * b)), p.level, p.turn.map (plus p.step (2 * b)), p.glide⟩))) rfl))
    rw [List.reverse_reverse] at g1
    have e0 : acN (acN A) = A := by
      unfold acN
      rw [List.map_map]
      conv => rhs; rw [← List.map_id A]
      exact map_congr' fun r _ => List.reverse_reverse r
    rw [e0] at g0
    have b2 := pap_tup (cf := cf) (e1 := .var 3) (e2 := .var 4) (e3 := .ix (.var 20) (.lit (.int 0))) (e4 := .var 6) (e5 := .ix (.var 20) (.lit (.int 1))) (e6 := .var 8) (env := eL sc t2 A p w v11 v12 v13 v14 v15 y16 v17 x18 x19 (.val (.lst [optD (p.mirror.map (plus p.step (2 * b))), optD (p.turn.map (plus p.step (2 * b)))])) v21 (.val (N b)) (.val (papD ⟨p.step, p.mirror.map (plus p.step (2 * b)), p.level, p.turn.map (plus p.step (2 * b)), p.glide⟩)))
      (p := ⟨p.step, p.mirror.map (plus p.step (2 * b)), p.level, p.turn.map (plus p.step (2 * b)), p.glide⟩) (g3 _ rfl) (ev_v rfl) (ix_O (O_v rfl) (lit_of (d := N 0)) rfl) (ev_v rfl) (ix_O (O_v rfl) (lit_of (d := N 1)) rfl) (ev_v rfl)
    exact (andt_t (cmp_O (o := .eq) (x := .var 23) (O_v rfl) (O_e b2 rfl) (eq_pap _))).trans ((andt_t (cmp_O (o := .eq) (y := .var 2) (O_e g0 rfl) (O_v rfl) (eq_same o.sg))).trans (cmp_O (o := .eq) (y := .var 2) (O_e g1 rfl) (O_v rfl) (eq_same o.sg)))
  have fin := (exs_cons s0).trans ((exs_cons s1).trans ((exs_cons s2).trans ((exs_cons s3).trans ((exs_cons s4).trans ((exs_cons s5).trans ((exs_cons s6).trans ((exs_cons s7).trans ((exs_cons s8).trans ((exs_cons s9).trans ((exs_cons s10).trans ((exs_cons s11).trans ((exs_cons s12).trans ((exs_cons s13).trans ((exs_cons s14).trans ((exs_cons s15).trans ((exs_cons s16).trans ((exs_cons s17).trans ((exs_cons s18).trans ((exs_cons s19).trans ((exs_cons s20).trans ((exs_cons s21).trans ((exs_cons s22).trans ((exs_cons s23).trans ((exs_cons s24).trans ((exs_cons s25).trans ((exs_cons s26).trans (exs_ret (r := .nil) (ret_of s27))))))))))))))))))))))))))))
  exact ⟨_, fin⟩
end
end Pat
end

section
/-! K59F: the law on patterns, plain. -/
set_option autoImplicit false
set_option linter.all false
set_option maxRecDepth 100000
set_option maxHeartbeats 4000000
namespace Pat
open Cv Tape
def fsP : List CF := [FCheck, FShift, FLeast, FAcross, FOver, FStrip, FMove, FTakes, FTape, FTake, FPattern, FLaw]
theorem base_P (W n : Nat) : Base (callI fsP W (n + 1)) :=
  ⟨fun o => ⟨.non, (callI_at rfl).trans (check_ok o)⟩, fun o b => ⟨.non, (callI_at rfl).trans (shift_ok o b)⟩, fun o => ⟨.non, (callI_at rfl).trans (across_ok o)⟩, fun A => ⟨.non, (callI_at rfl).trans over_ok⟩⟩
theorem base2_P (W n : Nat) : Base2 (callI fsP W (n + 2)) :=
  { toBase := base_P W (n + 1), least := fun o => ⟨.non, (callI_at rfl).trans (least_ok (base_P W n) o)⟩, move := fun o o2 h => ⟨.non, (callI_at rfl).trans (move_ok (base_P W n) o o2 h)⟩ }
theorem base3_P (W n : Nat) : Base3 (callI fsP W (n + 3)) :=
  { toBase2 := base2_P W (n + 1), strip := fun o => ⟨.non, (callI_at rfl).trans (strip_ok (base2_P W n) o)⟩ }
theorem base4_P (W n : Nat) : Base4 (callI fsP W (n + 4)) :=
  { toBase3 := base3_P W (n + 1), takes := fun o => ⟨.non, (callI_at rfl).trans (takes_ok (base3_P W n) o)⟩ }
theorem draws_P (W n : Nat) : Draws (callI fsP W (n + 1)) 9 := fun t m ht h0 h1 => by
  obtain ⟨r, t', h2, h3, h4⟩ := take_ok (cf := callI fsP W n) (W := W) ht h0 h1
  exact ⟨r, t', (callI_at rfl).trans h2, h3, h4⟩
theorem law_P (W : Nat) (ns : List Int) (hl : ns.length ≤ 63) : ∃ o, callI fsP W 12 11 [.lst (ns.map D.int)] = some (.bl true, o) := by
  obtain ⟨t0, h1, ht0⟩ := tape_ok (cf := callI fsP W 10) (W := W) ns hl
  obtain ⟨t, A, k, w, h2, ht, o, hk, hw⟩ := pattern_ok (cf := callI fsP W 10) (W := W) (draws_P W 9) ht0
  have hob : isObj t0 = true := by
    obtain ⟨_, _, _, _, _, rfl⟩ := ht0
    rfl
  obtain ⟨e, he⟩ := law_body (cf := callI fsP W 11) (W := W) (base4_P W 7) (draws_P W 10) o hk hw (sc := .lst (ns.map D.int)) ht ((callI_at (n := 10) rfl).trans h1) hob ((callI_at (n := 10) rfl).trans h2)
  exact ⟨.non, (callI_at (n := 11) (f := 11) (F := FLaw) rfl).trans (runF_ro (np := 1) (n := 25) (body := BLaw) (args := []) rfl he)⟩
end Pat
end

section
set_option Elab.async false
set_option linter.all false
set_option maxRecDepth 100000
set_option maxHeartbeats 0
namespace T59
open PySem L2 Cv
def top (i : Nat) : Stmt := PySem.Challenge.pw_nogapsleft_k59_whole_patterns_put_togeth.main.body.getD i (.Pass ⟨0, 0, 0, 0⟩)
def G : GI := ⟨[(("check_pattern" : Str), .v, 1), (("shifted" : Str), .v, 2), (("least_step" : Str), .v, 1), (("across" : Str), .v, 1), (("over" : Str), .v, 1), (("strip_paper" : Str), .v, 1), (("move_of" : Str), .v, 3), (("takes_strip" : Str), .v, 2), (("_law_tape" : Str), .rn, 1), (("_law_take" : Str), .io, 2), (("_law_pattern" : Str), .io, 1), (("law" : Str), .ro, 1)], [(("NAMES" : Str), (.tup [(.str [112, 49]), (.str [112, 49, 49, 103]), (.str [112, 49, 109, 49]), (.str [112, 50]), (.str [112, 50, 109, 103]), (.str [112, 49, 49, 109]), (.str [112, 50, 109, 109])]))], [("abs" : Str), ("all" : Str), ("int" : Str), ("len" : Str), ("range" : Str), ("reversed" : Str), ("tuple" : Str)]⟩
/-- check_pattern -/
def N0 : List Str := [("rows" : Str), ("row" : Str), ("sign" : Str)]
def S0 : SC := ⟨N0, defScope (top 5), defScope (top 5), [], false⟩
def B0 : CSs := (.cons (.ife (.ort (.nott (.chain .le .le (.lit (.int 1)) (.b1 .len (.var 0)) (.lit (.int 6)))) (.ort (.nott (.chain .le .le (.lit (.int 1)) (.b1 .len (.ix (.var 0) (.lit (.int 0)))) (.lit (.int 16)))) (.nott (.b1 .all (.lc (.cmp .eq (.b1 .len (.var 1)) (.b1 .len (.ix (.var 0) (.lit (.int 0))))) (.name 1) (.own 0) [1] .no))))) (.cons .never .nil) .nil) (.cons (.ife (.nott (.b1 .all (.lc (.b1 .all (.lc (.cmp .inn (.var 2) (.lit (.str [35, 46]))) (.name 2) (.own 1) [2] .no)) (.name 1) (.own 0) [1] .no))) (.cons .never .nil) .nil) .nil))
def F0 : CF := ⟨1, 3, .v, B0⟩
theorem c0 : (cSs G 100 S0 (defBody (top 5))).map toSs = some B0 := by kernel_rfl
/-- shifted -/
def N1 : List Str := [("rows" : Str), ("by" : Str), ("row" : Str)]
def S1 : SC := ⟨N1, defScope (top 6), defScope (top 6), [], false⟩
def B1 : CSs := (.cons (.ret (.b1 .tuple (.lc (.bin .add (.sl (.var 2) (.e (.bin .mod (.var 1) (.b1 .len (.var 2)))) .no) (.sl (.var 2) .no (.e (.bin .mod (.var 1) (.b1 .len (.var 2)))))) (.name 2) (.own 0) [2] .no))) .nil)
def F1 : CF := ⟨2, 3, .v, B1⟩
theorem c1 : (cSs G 100 S1 (defBody (top 6))).map toSs = some B1 := by kernel_rfl
/-- least_step -/
def N2 : List Str := [("rows" : Str), ("by" : Str)]
def S2 : SC := ⟨N2, defScope (top 7), defScope (top 7), [], false⟩
def B2 : CSs := (.cons (.ex (.call 0 (.cons (.var 0) .nil))) (.cons (.ret (.ix (.lc (.var 1) (.name 1) (.rng2 (.lit (.int 1)) (.bin .add (.b1 .len (.ix (.var 0) (.lit (.int 0)))) (.lit (.int 1)))) [1] (.e (.andt (.cmp .eq (.bin .mod (.b1 .len (.ix (.var 0) (.lit (.int 0)))) (.var 1)) (.lit (.int 0))) (.cmp .eq (.call 1 (.cons (.var 0) (.cons (.var 1) .nil))) (.b1 .tuple (.var 0)))))) (.lit (.int 0)))) .nil))
def F2 : CF := ⟨1, 2, .v, B2⟩
theorem c2 : (cSs G 100 S2 (defBody (top 7))).map toSs = some B2 := by kernel_rfl
/-- across -/
def N3 : List Str := [("rows" : Str), ("row" : Str)]
def S3 : SC := ⟨N3, defScope (top 8), defScope (top 8), [], false⟩
def B3 : CSs := (.cons (.ret (.b1 .tuple (.lc (.rev (.var 1)) (.name 1) (.own 0) [1] .no))) .nil)
def F3 : CF := ⟨1, 2, .v, B3⟩
theorem c3 : (cSs G 100 S3 (defBody (top 8))).map toSs = some B3 := by kernel_rfl
/-- over -/
def N4 : List Str := [("rows" : Str)]
def S4 : SC := ⟨N4, defScope (top 9), defScope (top 9), [], false⟩
def B4 : CSs := (.cons (.ret (.trev (.var 0))) .nil)
def F4 : CF := ⟨1, 1, .v, B4⟩
theorem c4 : (cSs G 100 S4 (defBody (top 9))).map toSs = some B4 := by kernel_rfl
/-- strip_paper -/
def N5 : List Str := [("rows" : Str), ("step" : Str), ("mirror" : Str), ("level" : Str), ("turn" : Str), ("glide" : Str), ("name" : Str)]
def S5 : SC := ⟨N5, defScope (top 10), defScope (top 10), [], false⟩
def B5 : CSs := (.cons (.asg (.name 1) (.call 2 (.cons (.var 0) .nil))) (.cons (.asg (.name 2) (.call 6 (.cons (.call 3 (.cons (.var 0) .nil)) (.cons (.var 0) (.cons (.var 1) .nil))))) (.cons (.asg (.name 3) (.ite (.cmp .eq (.call 4 (.cons (.var 0) .nil)) (.b1 .tuple (.var 0))) (.lit (.int 0)) (.lit .non))) (.cons (.asg (.name 4) (.call 6 (.cons (.call 4 (.cons (.call 3 (.cons (.var 0) .nil)) .nil)) (.cons (.var 0) (.cons (.var 1) .nil))))) (.cons (.asg (.name 5) (.ite (.cmp .is (.var 3) (.lit .non)) (.call 6 (.cons (.call 4 (.cons (.var 0) .nil)) (.cons (.var 0) (.cons (.var 1) .nil)))) (.lit .non))) (.cons (.ife (.cmp .eq (.var 3) (.lit (.int 0))) (.cons (.asg (.name 6) (.ite (.cmp .isn (.var 2) (.lit .non)) (.lit (.str [112, 50, 109, 109])) (.lit (.str [112, 49, 49, 109])))) .nil) (.cons (.ife (.cmp .isn (.var 5) (.lit .non)) (.cons (.asg (.name 6) (.ite (.cmp .isn (.var 2) (.lit .non)) (.lit (.str [112, 50, 109, 103])) (.lit (.str [112, 49, 49, 103])))) .nil) (.cons (.ife (.cmp .isn (.var 2) (.lit .non)) (.cons (.asg (.name 6) (.lit (.str [112, 49, 109, 49]))) .nil) (.cons (.asg (.name 6) (.ite (.cmp .isn (.var 4) (.lit .non)) (.lit (.str [112, 50])) (.lit (.str [112, 49])))) .nil)) .nil)) .nil)) (.cons (.ret (.tup (.cons (.var 6) (.cons (.var 1) (.cons (.var 2) (.cons (.var 3) (.cons (.var 4) (.cons (.var 5) .nil)))))))) .nil)))))))
def F5 : CF := ⟨1, 7, .v, B5⟩
theorem c5 : (cSs G 100 S5 (defBody (top 10))).map toSs = some B5 := by kernel_rfl
/-- move_of -/
def N6 : List Str := [("told" : Str), ("rows" : Str), ("step" : Str), ("fits" : Str), ("by" : Str)]
def S6 : SC := ⟨N6, defScope (top 11), defScope (top 11), [], false⟩
def B6 : CSs := (.cons (.asg (.name 3) (.lc (.var 4) (.name 4) (.rng1 (.var 2)) [4] (.e (.cmp .eq (.call 1 (.cons (.var 0) (.cons (.var 4) .nil))) (.b1 .tuple (.var 1)))))) (.cons (.ret (.ite (.var 3) (.ix (.var 3) (.lit (.int 0))) (.lit .non))) .nil))
def F6 : CF := ⟨3, 5, .v, B6⟩
theorem c6 : (cSs G 100 S6 (defBody (top 11))).map toSs = some B6 := by kernel_rfl
/-- takes_strip -/
def N7 : List Str := [("rows" : Str), ("paper" : Str), ("name" : Str), ("step" : Str), ("mirror" : Str), ("level" : Str), ("turn" : Str), ("glide" : Str)]
def S7 : SC := ⟨N7, defScope (top 12), defScope (top 12), [], false⟩
def B7 : CSs := (.cons (.asg (.tup [(.name 2), (.name 3), (.name 4), (.name 5), (.name 6), (.name 7)]) (.var 1)) (.cons (.ret (.andt (.cmp .inn (.var 2) (.lit (.tup [(.str [112, 49]), (.str [112, 49, 49, 103]), (.str [112, 49, 109, 49]), (.str [112, 50]), (.str [112, 50, 109, 103]), (.str [112, 49, 49, 109]), (.str [112, 50, 109, 109])]))) (.andt (.cmp .eq (.b1 .tuple (.var 1)) (.call 5 (.cons (.var 0) .nil))) (.cmp .ge (.var 3) (.lit (.int 1)))))) .nil))
def F7 : CF := ⟨2, 8, .v, B7⟩
theorem c7 : (cSs G 100 S7 (defBody (top 12))).map toSs = some B7 := by kernel_rfl
/-- _law_tape -/
def N8 : List Str := [("script" : Str), ("cells" : Str), ("seed" : Str), ("cell" : Str)]
def S8 : SC := ⟨N8, defScope (top 14), defScope (top 14), [], true⟩
def B8 : CSs := (.cons (.asg (.name 1) (.lc (.b1 .abs (.b1 .int (.var 3))) (.name 3) (.own 0) [3] .no)) (.cons (.asg (.name 2) (.lit (.int 7))) (.cons (.for_ (.name 3) (.own 1) (.cons (.asg (.name 2) (.bin .mod (.b1 .int (.bin .add (.bin .mul (.var 2) (.lit (.int 31))) (.var 3))) (.lit (.int 2147483647)))) .nil)) (.cons (.retO (.dct (.cons (.lit (.str [99, 101, 108, 108, 115])) (.var 1) (.cons (.lit (.str [97, 116])) (.lit (.int 0)) (.cons (.lit (.str [108, 101, 102, 116])) (.lit (.int 0)) (.cons (.lit (.str [115, 101, 101, 100])) (.var 2) (.cons (.lit (.str [115, 97, 108, 116])) (.lit (.int 0)) .nil))))))) .nil))))
def F8 : CF := ⟨1, 4, .rn, B8⟩
theorem c8 : (cSs G 100 S8 (defBody (top 14))).map toSs = some B8 := by kernel_rfl
/-- _law_take -/
def N9 : List Str := [("tape" : Str), ("many" : Str), ("drawn" : Str), ("mixed" : Str)]
def S9 : SC := ⟨N9, defScope (top 15), defScope (top 15), [], false⟩
def B9 : CSs := (.cons (.ife (.andt (.cmp .eq (.ix (.var 0) (.lit (.str [108, 101, 102, 116]))) (.lit (.int 0))) (.cmp .lt (.ix (.var 0) (.lit (.str [97, 116]))) (.b1 .len (.ix (.var 0) (.lit (.str [99, 101, 108, 108, 115])))))) (.cons (.setix 0 (.lit (.str [108, 101, 102, 116])) (.ix (.ix (.var 0) (.lit (.str [99, 101, 108, 108, 115]))) (.ix (.var 0) (.lit (.str [97, 116]))))) (.cons (.setix 0 (.lit (.str [97, 116])) (.bin .add (.ix (.var 0) (.lit (.str [97, 116]))) (.lit (.int 1)))) .nil)) .nil) (.cons (.ife (.cmp .gt (.ix (.var 0) (.lit (.str [108, 101, 102, 116]))) (.lit (.int 0))) (.cons (.asg (.name 2) (.bin .mod (.b1 .int (.ix (.var 0) (.lit (.str [108, 101, 102, 116])))) (.var 1))) (.cons (.setix 0 (.lit (.str [108, 101, 102, 116])) (.bin .fdiv (.ix (.var 0) (.lit (.str [108, 101, 102, 116]))) (.var 1))) (.cons (.ret (.var 2)) .nil))) .nil) (.cons (.setix 0 (.lit (.str [115, 97, 108, 116])) (.bin .add (.ix (.var 0) (.lit (.str [115, 97, 108, 116]))) (.lit (.int 1)))) (.cons (.asg (.name 3) (.bin .mod (.b1 .int (.bin .add (.bin .mul (.ix (.var 0) (.lit (.str [115, 101, 101, 100]))) (.lit (.int 48271))) (.bin .mul (.ix (.var 0) (.lit (.str [115, 97, 108, 116]))) (.lit (.int 69621))))) (.lit (.int 2147483647)))) (.cons (.asg (.name 3) (.bin .mod (.b1 .int (.bin .add (.bin .add (.bin .mul (.var 3) (.var 3)) (.bin .mul (.ix (.var 0) (.lit (.str [115, 97, 108, 116]))) (.lit (.int 40692)))) (.lit (.int 12345)))) (.lit (.int 2147483399)))) (.cons (.ret (.bin .mod (.b1 .int (.var 3)) (.var 1))) .nil))))))
def F9 : CF := ⟨2, 4, .io, B9⟩
theorem c9 : (cSs G 100 S9 (defBody (top 15))).map toSs = some B9 := by kernel_rfl
/-- _law_pattern -/
def N10 : List Str := [("tape" : Str), ("wide" : Str), ("tall" : Str), ("rows" : Str), ("half" : Str), ("y" : Str), ("x" : Str), ("row" : Str)]
def S10 : SC := ⟨N10, defScope (top 16), defScope (top 16), [], false⟩
def B10 : CSs := (.cons (.asgM [(1, false), (2, false)] (.cons (.bin .add (.lit (.int 1)) (.callT 9 0 (.cons (.lit (.int 8)) .nil))) (.cons (.bin .add (.lit (.int 1)) (.callT 9 0 (.cons (.lit (.int 3)) .nil))) .nil))) (.cons (.asg (.name 3) (.b1 .tuple (.lc (.join (.lit (.str [])) (.lc (.ix (.lit (.str [35, 46])) (.callT 9 0 (.cons (.lit (.int 2)) .nil))) (.name 6) (.rng1 (.var 1)) [6] .no)) (.name 5) (.rng1 (.var 2)) [5] .no))) (.cons (.ife (.cmp .eq (.callT 9 0 (.cons (.lit (.int 3)) .nil)) (.lit (.int 0))) (.cons (.asg (.name 4) (.b1 .tuple (.lc (.sl (.var 7) .no (.e (.bin .fdiv (.bin .add (.var 1) (.lit (.int 1))) (.lit (.int 2))))) (.name 7) (.own 3) [7] .no))) (.cons (.asg (.name 3) (.b1 .tuple (.lc (.sl (.bin .add (.var 7) (.rev (.var 7))) .no (.e (.lit (.int 8)))) (.name 7) (.own 4) [7] .no))) .nil)) .nil) (.cons (.ret (.var 3)) .nil))))
def F10 : CF := ⟨1, 8, .io, B10⟩
theorem c10 : (cSs G 100 S10 (defBody (top 16))).map toSs = some B10 := by kernel_rfl
/-- law -/
def N11 : List Str := [("script" : Str), ("tape" : Str), ("rows" : Str), ("name" : Str), ("step" : Str), ("mirror" : Str), ("level" : Str), ("turn" : Str), ("glide" : Str), ("paper" : Str), ("wide" : Str), ("twice" : Str), ("other" : Str), ("short" : Str), ("told" : Str), ("thick" : Str), ("row" : Str), ("stack" : Str), ("half" : Str), ("moved" : Str), ("due" : Str), ("beside" : Str), ("by" : Str), ("bent" : Str), ("sign" : Str)]
def S11 : SC := ⟨N11, defScope (top 17), defScope (top 17), [("tape" : Str)], false⟩
def B11 : CSs := (.cons (.asgO 1 (.callN 8 0 .nil)) (.cons (.asg (.name 2) (.callT 10 1 .nil)) (.cons (.asg (.tup [(.name 3), (.name 4), (.name 5), (.name 6), (.name 7), (.name 8)]) (.call 5 (.cons (.var 2) .nil))) (.cons (.asg (.name 9) (.tup (.cons (.var 3) (.cons (.var 4) (.cons (.var 5) (.cons (.var 6) (.cons (.var 7) (.cons (.var 8) .nil)))))))) (.cons (.asg (.name 10) (.b1 .len (.ix (.var 2) (.lit (.int 0))))) (.cons (.ife (.ort (.cmp .ne (.bin .mod (.b1 .int (.var 10)) (.var 4)) (.lit (.int 0))) (.ort (.cmp .ne (.call 2 (.cons (.var 2) .nil)) (.var 4)) (.ort (.cmp .isn (.call 7 (.cons (.var 2) (.cons (.var 9) .nil))) (.lit (.bl true))) (.cmp .ne (.call 1 (.cons (.var 2) (.cons (.var 4) .nil))) (.var 2))))) (.cons (.ret (.lit (.bl false))) .nil) .nil) (.cons (.asg (.name 11) (.b1 .tuple (.lc (.bin .add (.var 16) (.var 16)) (.name 16) (.own 2) [16] .no))) (.cons (.asg (.name 12) (.b1 .tuple (.lc (.join (.lit (.str [])) (.lc (.ite (.cmp .eq (.var 24) (.lit (.str [35]))) (.lit (.str [46])) (.lit (.str [35]))) (.name 24) (.own 16) [24] .no)) (.name 16) (.own 2) [16] .no))) (.cons (.asg (.name 13) (.b1 .tuple (.lc (.sl (.var 16) .no (.e (.var 4))) (.name 16) (.own 2) [16] .no))) (.cons (.for_ (.name 14) (.e (.tup (.cons (.var 11) (.cons (.var 12) (.cons (.var 13) .nil))))) (.cons (.ife (.ort (.cmp .ne (.call 5 (.cons (.var 14) .nil)) (.var 9)) (.cmp .ne (.call 2 (.cons (.var 14) .nil)) (.var 4))) (.cons (.ret (.lit (.bl false))) .nil) .nil) .nil)) (.cons (.asg (.name 15) (.lst .nil)) (.cons (.for_ (.name 16) (.own 2) (.cons (.asg (.name 15) (.bin .add (.var 15) (.lst (.cons (.var 16) (.cons (.var 16) .nil))))) .nil)) (.cons (.ife (.cmp .ne (.call 5 (.cons (.b1 .tuple (.var 15)) .nil)) (.var 9)) (.cons (.ret (.lit (.bl false))) .nil) .nil) (.cons (.asg (.name 17) (.bin .add (.var 2) (.call 4 (.cons (.var 2) .nil)))) (.cons (.ife (.cmp .ne (.call 5 (.cons (.var 17) .nil)) (.tup (.cons (.ite (.cmp .is (.var 5) (.lit .non)) (.lit (.str [112, 49, 49, 109])) (.lit (.str [112, 50, 109, 109]))) (.cons (.var 4) (.cons (.var 5) (.cons (.lit (.int 0)) (.cons (.var 5) (.cons (.lit .non) .nil)))))))) (.cons (.ret (.lit (.bl false))) .nil) .nil) (.cons (.ife (.cmp .eq (.bin .mod (.b1 .int (.var 4)) (.lit (.int 2))) (.lit (.int 0))) (.cons (.asg (.name 18) (.bin .fdiv (.var 4) (.lit (.int 2)))) (.cons (.asg (.name 19) (.bin .add (.var 2) (.call 1 (.cons (.call 4 (.cons (.var 2) .nil)) (.cons (.var 18) .nil))))) (.cons (.asg (.name 20) (.ite (.cmp .is (.var 5) (.lit .non)) (.lit .non) (.bin .mod (.b1 .int (.bin .add (.var 5) (.var 18))) (.var 4)))) (.cons (.ife (.cmp .ne (.call 5 (.cons (.var 19) .nil)) (.tup (.cons (.ite (.cmp .is (.var 5) (.lit .non)) (.lit (.str [112, 49, 49, 103])) (.lit (.str [112, 50, 109, 103]))) (.cons (.var 4) (.cons (.var 5) (.cons (.lit .non) (.cons (.var 20) (.cons (.var 18) .nil)))))))) (.cons (.ret (.lit (.bl false))) .nil) .nil) .nil)))) .nil) (.cons (.asg (.name 21) (.bin .add (.var 2) (.call 4 (.cons (.call 3 (.cons (.var 2) .nil)) .nil)))) (.cons (.asg (.name 14) (.call 5 (.cons (.var 21) .nil))) (.cons (.ife (.ort (.cmp .ne (.ix (.var 14) (.lit (.int 1))) (.var 4)) (.ort (.cmp .ne (.ix (.var 14) (.lit (.int 4))) (.lit (.int 0))) (.cmp .ne (.ix (.var 14) (.lit (.int 2))) (.ite (.andt (.cmp .isn (.var 5) (.lit .non)) (.cmp .eq (.bin .mod (.b1 .int (.bin .mul (.lit (.int 2)) (.var 5))) (.var 4)) (.lit (.int 0)))) (.var 5) (.lit .non))))) (.cons (.ret (.lit (.bl false))) .nil) .nil) (.cons (.ife (.ort (.cmp .ne (.cmp .is (.var 5) (.lit .non)) (.cmp .is (.ix (.call 5 (.cons (.call 3 (.cons (.var 2) .nil)) .nil)) (.lit (.int 2))) (.lit .non))) (.ort (.cmp .ne (.ix (.call 5 (.cons (.call 4 (.cons (.var 2) .nil)) .nil)) (.lit (.int 0))) (.var 3)) (.cmp .ne (.ix (.call 5 (.cons (.call 3 (.cons (.var 2) .nil)) .nil)) (.lit (.int 0))) (.var 3)))) (.cons (.ret (.lit (.bl false))) .nil) .nil) (.cons (.ife (.ort (.andt (.cmp .isn (.var 5) (.lit .non)) (.cmp .ne (.call 1 (.cons (.call 3 (.cons (.var 2) .nil)) (.cons (.var 5) .nil))) (.var 2))) (.andt (.cmp .isn (.var 7) (.lit .non)) (.cmp .ne (.call 1 (.cons (.call 4 (.cons (.call 3 (.cons (.var 2) .nil)) .nil)) (.cons (.var 7) .nil))) (.var 2)))) (.cons (.ret (.lit (.bl false))) .nil) .nil) (.cons (.ife (.ort (.andt (.cmp .isn (.var 6) (.lit .non)) (.cmp .ne (.call 4 (.cons (.var 2) .nil)) (.var 2))) (.ort (.andt (.cmp .isn (.var 8) (.lit .non)) (.cmp .ne (.call 1 (.cons (.call 4 (.cons (.var 2) .nil)) (.cons (.var 8) .nil))) (.var 2))) (.andt (.cmp .isn (.var 8) (.lit .non)) (.cmp .ne (.bin .mul (.lit (.int 2)) (.var 8)) (.var 4))))) (.cons (.ret (.lit (.bl false))) .nil) .nil) (.cons (.ife (.ort (.andt (.cmp .eq (.var 6) (.lit (.int 0))) (.cmp .ne (.var 7) (.var 5))) (.andt (.cmp .ne (.cmp .is (.var 5) (.lit .non)) (.cmp .is (.var 7) (.lit .non))) (.ort (.cmp .isn (.var 6) (.lit .non)) (.cmp .isn (.var 8) (.lit .non))))) (.cons (.ret (.lit (.bl false))) .nil) .nil) (.cons (.ife (.andt (.cmp .isn (.var 5) (.lit .non)) (.andt (.cmp .isn (.var 7) (.lit .non)) (.andt (.cmp .is (.var 6) (.lit .non)) (.cmp .is (.var 8) (.lit .non))))) (.cons (.ret (.lit (.bl false))) .nil) .nil) (.cons (.asg (.name 22) (.callT 9 1 (.cons (.bin .mul (.lit (.int 3)) (.var 10)) .nil))) (.cons (.asg (.name 23) (.call 5 (.cons (.call 1 (.cons (.var 2) (.cons (.var 22) .nil))) .nil))) (.cons (.asg (.name 20) (.lc (.ite (.cmp .is (.var 14) (.lit .non)) (.lit .non) (.bin .mod (.b1 .int (.bin .add (.var 14) (.bin .mul (.lit (.int 2)) (.var 22)))) (.var 4))) (.name 14) (.e (.tup (.cons (.var 5) (.cons (.var 7) .nil)))) [14] .no)) (.cons (.ret (.andt (.cmp .eq (.var 23) (.tup (.cons (.var 3) (.cons (.var 4) (.cons (.ix (.var 20) (.lit (.int 0))) (.cons (.var 6) (.cons (.ix (.var 20) (.lit (.int 1))) (.cons (.var 8) .nil)))))))) (.andt (.cmp .eq (.call 3 (.cons (.call 3 (.cons (.var 2) .nil)) .nil)) (.var 2)) (.cmp .eq (.call 4 (.cons (.call 4 (.cons (.var 2) .nil)) .nil)) (.var 2))))) .nil))))))))))))))))))))))))))))
def F11 : CF := ⟨1, 25, .ro, B11⟩
theorem c11 : (cSs G 100 S11 (defBody (top 17))).map toSs = some B11 := by kernel_rfl
def fs : List CF := [F0, F1, F2, F3, F4, F5, F6, F7, F8, F9, F10, F11]
theorem k0 : DOk G fs 0 ("check_pattern" : Str) (top 5) [("rows" : Str)] S0 F0 := ⟨rfl, rfl, rfl, rfl, rfl, C8.fnScope_by (by decide +kernel), rfl, rfl, c0, fun _ _ _ _ _ _ us hl => match us, hl with | [_], _ => rfl⟩
def d0 : He.DefD := ⟨(("check_pattern" : Str), none), ("check_pattern" : Str), ("check_pattern" : Str), defArgs (top 5), defBody (top 5), defScope (top 5), [], []⟩
theorem k1 : DOk G fs 1 ("shifted" : Str) (top 6) [("rows" : Str), ("by" : Str)] S1 F1 := ⟨rfl, rfl, rfl, rfl, rfl, C8.fnScope_by (by decide +kernel), rfl, rfl, c1, fun _ _ _ _ _ _ us hl => match us, hl with | [_, _], _ => rfl⟩
def d1 : He.DefD := ⟨(("shifted" : Str), none), ("shifted" : Str), ("shifted" : Str), defArgs (top 6), defBody (top 6), defScope (top 6), [], []⟩
theorem k2 : DOk G fs 2 ("least_step" : Str) (top 7) [("rows" : Str)] S2 F2 := ⟨rfl, rfl, rfl, rfl, rfl, C8.fnScope_by (by decide +kernel), rfl, rfl, c2, fun _ _ _ _ _ _ us hl => match us, hl with | [_], _ => rfl⟩
def d2 : He.DefD := ⟨(("least_step" : Str), none), ("least_step" : Str), ("least_step" : Str), defArgs (top 7), defBody (top 7), defScope (top 7), [], []⟩
theorem k3 : DOk G fs 3 ("across" : Str) (top 8) [("rows" : Str)] S3 F3 := ⟨rfl, rfl, rfl, rfl, rfl, C8.fnScope_by (by decide +kernel), rfl, rfl, c3, fun _ _ _ _ _ _ us hl => match us, hl with | [_], _ => rfl⟩
def d3 : He.DefD := ⟨(("across" : Str), none), ("across" : Str), ("across" : Str), defArgs (top 8), defBody (top 8), defScope (top 8), [], []⟩
theorem k4 : DOk G fs 4 ("over" : Str) (top 9) [("rows" : Str)] S4 F4 := ⟨rfl, rfl, rfl, rfl, rfl, C8.fnScope_by (by decide +kernel), rfl, rfl, c4, fun _ _ _ _ _ _ us hl => match us, hl with | [_], _ => rfl⟩
def d4 : He.DefD := ⟨(("over" : Str), none), ("over" : Str), ("over" : Str), defArgs (top 9), defBody (top 9), defScope (top 9), [], []⟩
theorem k5 : DOk G fs 5 ("strip_paper" : Str) (top 10) [("rows" : Str)] S5 F5 := ⟨rfl, rfl, rfl, rfl, rfl, C8.fnScope_by (by decide +kernel), rfl, rfl, c5, fun _ _ _ _ _ _ us hl => match us, hl with | [_], _ => rfl⟩
def d5 : He.DefD := ⟨(("strip_paper" : Str), none), ("strip_paper" : Str), ("strip_paper" : Str), defArgs (top 10), defBody (top 10), defScope (top 10), [], []⟩
theorem k6 : DOk G fs 6 ("move_of" : Str) (top 11) [("told" : Str), ("rows" : Str), ("step" : Str)] S6 F6 := ⟨rfl, rfl, rfl, rfl, rfl, C8.fnScope_by (by decide +kernel), rfl, rfl, c6, fun _ _ _ _ _ _ us hl => match us, hl with | [_, _, _], _ => rfl⟩
def d6 : He.DefD := ⟨(("move_of" : Str), none), ("move_of" : Str), ("move_of" : Str), defArgs (top 11), defBody (top 11), defScope (top 11), [], []⟩
theorem k7 : DOk G fs 7 ("takes_strip" : Str) (top 12) [("rows" : Str), ("paper" : Str)] S7 F7 := ⟨rfl, rfl, rfl, rfl, rfl, C8.fnScope_by (by decide +kernel), rfl, rfl, c7, fun _ _ _ _ _ _ us hl => match us, hl with | [_, _], _ => rfl⟩
def d7 : He.DefD := ⟨(("takes_strip" : Str), none), ("takes_strip" : Str), ("takes_strip" : Str), defArgs (top 12), defBody (top 12), defScope (top 12), [], []⟩
theorem k8 : DOk G fs 8 ("_law_tape" : Str) (top 14) [("script" : Str)] S8 F8 := ⟨rfl, rfl, rfl, rfl, rfl, C8.fnScope_by (by decide +kernel), rfl, rfl, c8, fun _ _ _ _ _ _ us hl => match us, hl with | [_], _ => rfl⟩
def d8 : He.DefD := ⟨(("_law_tape" : Str), none), ("_law_tape" : Str), ("_law_tape" : Str), defArgs (top 14), defBody (top 14), defScope (top 14), [], []⟩
theorem k9 : DOk G fs 9 ("_law_take" : Str) (top 15) [("tape" : Str), ("many" : Str)] S9 F9 := ⟨rfl, rfl, rfl, rfl, rfl, C8.fnScope_by (by decide +kernel), rfl, rfl, c9, fun _ _ _ _ _ _ us hl => match us, hl with | [_, _], _ => rfl⟩
def d9 : He.DefD := ⟨(("_law_take" : Str), none), ("_law_take" : Str), ("_law_take" : Str), defArgs (top 15), defBody (top 15), defScope (top 15), [], []⟩
theorem k10 : DOk G fs 10 ("_law_pattern" : Str) (top 16) [("tape" : Str)] S10 F10 := ⟨rfl, rfl, rfl, rfl, rfl, C8.fnScope_by (by decide +kernel), rfl, rfl, c10, fun _ _ _ _ _ _ us hl => match us, hl with | [_], _ => rfl⟩
def d10 : He.DefD := ⟨(("_law_pattern" : Str), none), ("_law_pattern" : Str), ("_law_pattern" : Str), defArgs (top 16), defBody (top 16), defScope (top 16), [], []⟩
theorem k11 : DOk G fs 11 ("law" : Str) (top 17) [("script" : Str)] S11 F11 := ⟨rfl, rfl, rfl, rfl, rfl, C8.fnScope_by (by decide +kernel), rfl, rfl, c11, fun _ _ _ _ _ _ us hl => match us, hl with | [_], _ => rfl⟩
def d11 : He.DefD := ⟨(("law" : Str), none), ("law" : Str), ("law" : Str), defArgs (top 17), defBody (top 17), defScope (top 17), [], []⟩
def fn : List He.DefD := [d0, d1, d2, d3, d4, d5, d6, d7, d8, d9, d10, d11]
def fa : List He.Fa := [.glo ("check_pattern" : Str), .glo ("shifted" : Str), .glo ("least_step" : Str), .glo ("across" : Str), .glo ("over" : Str), .glo ("strip_paper" : Str), .glo ("move_of" : Str), .glo ("takes_strip" : Str), .glo ("_law_tape" : Str), .glo ("_law_take" : Str), .glo ("_law_pattern" : Str), .glo ("law" : Str), .free ("abs" : Str), .free ("all" : Str), .free ("int" : Str), .free ("len" : Str), .free ("range" : Str), .free ("reversed" : Str), .free ("tuple" : Str)]
abbrev R : PySem.W.OpenRow := PySem.W.OpenLaw.row PySem.Challenge.rw_nogapsleft_k59_whole_patterns_put_togeth
abbrev hk : PySem.W.Hook := hkC 4 fa fn G.consts
def ob (s : PySem.W.SharedT) : AlC := obC 4 fa fn G.consts (HandSHeadRun.getT s)
theorem ob_eq (s : PySem.W.SharedT) : ob s = hk.obs s.abs := obC_eq (HandSHeadRun.getT_eq s)
theorem run (w : World) : HandSHeadRun.RunEq R (PySem.W.view R.prog [17]) hk ob 6000 ["GapError", "InvalidPattern", "NAMES", "check_pattern", "shifted", "least_step", "across", "over", "strip_paper", "move_of", "takes_strip", "_law_tape", "_law_take", "_law_pattern"] w := by
  intro os
  kernel_rfl
section
variable {P : Program} {w : World} {K : PySem.W.Frag} {h : Heap} {mg : Str → Option Value}
theorem hd (X : K.In h) (Gm : h.Ns mainGlobals mg) (c : He.SaysD fa fn K) : ∀ j x k np, G.fns[j]? = some (x, k, np) → ∃ st ps S F f fd, DOk G fs j x st ps S F ∧ FunD K x x (defArgs st) (defBody st) (defScope st) [] [] f fd ∧ mg x = some (.ref f) := by
  intro j x k np hj
  match j, hj with
  | 0, hj =>
    cases hj
    obtain ⟨fd, FD⟩ := c.def_ 0 (d := d0) rfl
    exact ⟨_, _, _, _, _, fd, k0, FD, He.glo_ok X Gm (c.fact 0 (f := .glo ("check_pattern" : Str)) rfl)⟩
  | 1, hj =>
    cases hj
    obtain ⟨fd, FD⟩ := c.def_ 1 (d := d1) rfl
    exact ⟨_, _, _, _, _, fd, k1, FD, He.glo_ok X Gm (c.fact 1 (f := .glo ("shifted" : Str)) rfl)⟩
  | 2, hj =>
    cases hj
    obtain ⟨fd, FD⟩ := c.def_ 2 (d := d2) rfl
    exact ⟨_, _, _, _, _, fd, k2, FD, He.glo_ok X Gm (c.fact 2 (f := .glo ("least_step" : Str)) rfl)⟩
  | 3, hj =>
    cases hj
    obtain ⟨fd, FD⟩ := c.def_ 3 (d := d3) rfl
    exact ⟨_, _, _, _, _, fd, k3, FD, He.glo_ok X Gm (c.fact 3 (f := .glo ("across" : Str)) rfl)⟩
  | 4, hj =>
    cases hj
    obtain ⟨fd, FD⟩ := c.def_ 4 (d := d4) rfl
    exact ⟨_, _, _, _, _, fd, k4, FD, He.glo_ok X Gm (c.fact 4 (f := .glo ("over" : Str)) rfl)⟩
  | 5, hj =>
    cases hj
    obtain ⟨fd, FD⟩ := c.def_ 5 (d := d5) rfl
    exact ⟨_, _, _, _, _, fd, k5, FD, He.glo_ok X Gm (c.fact 5 (f := .glo ("strip_paper" : Str)) rfl)⟩
  | 6, hj =>
    cases hj
    obtain ⟨fd, FD⟩ := c.def_ 6 (d := d6) rfl
    exact ⟨_, _, _, _, _, fd, k6, FD, He.glo_ok X Gm (c.fact 6 (f := .glo ("move_of" : Str)) rfl)⟩
  | 7, hj =>
    cases hj
    obtain ⟨fd, FD⟩ := c.def_ 7 (d := d7) rfl
    exact ⟨_, _, _, _, _, fd, k7, FD, He.glo_ok X Gm (c.fact 7 (f := .glo ("takes_strip" : Str)) rfl)⟩
  | 8, hj =>
    cases hj
    obtain ⟨fd, FD⟩ := c.def_ 8 (d := d8) rfl
    exact ⟨_, _, _, _, _, fd, k8, FD, He.glo_ok X Gm (c.fact 8 (f := .glo ("_law_tape" : Str)) rfl)⟩
  | 9, hj =>
    cases hj
    obtain ⟨fd, FD⟩ := c.def_ 9 (d := d9) rfl
    exact ⟨_, _, _, _, _, fd, k9, FD, He.glo_ok X Gm (c.fact 9 (f := .glo ("_law_take" : Str)) rfl)⟩
  | 10, hj =>
    cases hj
    obtain ⟨fd, FD⟩ := c.def_ 10 (d := d10) rfl
    exact ⟨_, _, _, _, _, fd, k10, FD, He.glo_ok X Gm (c.fact 10 (f := .glo ("_law_pattern" : Str)) rfl)⟩
  | 11, hj =>
    cases hj
    obtain ⟨fd, FD⟩ := c.def_ 11 (d := d11) rfl
    exact ⟨_, _, _, _, _, fd, k11, FD, He.glo_ok X Gm (c.fact 11 (f := .glo ("law" : Str)) rfl)⟩
  | _ + 12, hj => cases hj
theorem hfree (X : K.In h) (Gm : h.Ns mainGlobals mg) (c : He.SaysD fa fn K) : ∀ x ∈ G.free, mg x = none := by
  intro x hx
  have e : G.free = [("abs" : Str), ("all" : Str), ("int" : Str), ("len" : Str), ("range" : Str), ("reversed" : Str), ("tuple" : Str)] := rfl
  rw [e] at hx
  simp only [List.mem_cons, List.not_mem_nil, or_false] at hx
  rcases hx with rfl | rfl | rfl | rfl | rfl | rfl | rfl
  · exact He.free_ok X Gm (c.fact 12 (f := .free ("abs" : Str)) rfl)
  · exact He.free_ok X Gm (c.fact 13 (f := .free ("all" : Str)) rfl)
  · exact He.free_ok X Gm (c.fact 14 (f := .free ("int" : Str)) rfl)
  · exact He.free_ok X Gm (c.fact 15 (f := .free ("len" : Str)) rfl)
  · exact He.free_ok X Gm (c.fact 16 (f := .free ("range" : Str)) rfl)
  · exact He.free_ok X Gm (c.fact 17 (f := .free ("reversed" : Str)) rfl)
  · exact He.free_ok X Gm (c.fact 18 (f := .free ("tuple" : Str)) rfl)
theorem facts {f : Addr} (W : Nat) (X : K.In h) (Gm : h.Ns mainGlobals mg) (hfa : mg ("law" : Str) = some (.ref f)) (c : He.SaysD fa fn K) (cc : conB G.consts K = true) :
    ∃ fd : FuncData, (∀ (s : Shared) (v : Value), BindsTo s fd ⟨[v], []⟩ [("script", v)]) ∧ ∀ base : Heap, K.In base → base.Ns mainGlobals mg → FnOk P w K mg base L2.CX0 12 f fd ["script"] (spF K .ro 1 (callI fs W 12 11)) := by
  obtain ⟨fd, FD⟩ := c.def_ 11 (d := d11) rfl
  have e := hfa.symm.trans (He.glo_ok X Gm (c.fact 11 (f := .glo ("law" : Str)) rfl))
  cases e
  exact ⟨fd, fun s v => FunD.bindsA FD k11.bind s [v] rfl, fun base _ _ => def_ok (lev := 11) k11 FD hfa (hfree X Gm c) (conB_ok X Gm cc) (level (hd X Gm c) (hfree X Gm c) (conB_ok X Gm cc) 11) (level_len (hd X Gm c) 11)⟩
end
/-- the law, of what the interpreter says -/
theorem holds_of (W : Nat) (plain : ∀ ns : List Int, ns.length ≤ 63 → ∃ o, callI fs W 12 11 [.lst (ns.map D.int)] = some (.bl true, o)) : PySem.Challenge.rw_nogapsleft_k59_whole_patterns_put_togeth.Holds := by
  open PySem.W PySem.Calls PyProof.Rows in
  w_on; o_law
  refine HandSHeadRun.head_any (r := R) (q := PySem.W.view R.prog [17]) (H := hk) (ob := ob) (M := 6000) (loose := ["GapError", "InvalidPattern", "NAMES", "check_pattern", "shifted", "least_step", "across", "over", "strip_paper", "move_of", "takes_strip", "_law_tape", "_law_take", "_law_pattern"]) (d := HandSHeadRun.topDef R.prog 17) (kwd := []) ob_eq
    (by kernel_rfl) (fun s => by kernel_rfl) run (by kernel_rfl) (by kernel_rfl) (by kernel_rfl) (by rfl) (by first | assumption | decide +kernel) (by decide +kernel) ⟨rfl, rfl, rfl, rfl, rfl, by decide +kernel⟩ ?hw ?hc
  case hw => w_witness2
  case hc =>
    refine L2.walk_ofE (l := PySem.Challenge.rw_nogapsleft_k59_whole_patterns_put_togeth) (n := 63) (k := 12) (x := "script") (CX := L2.CX0) rfl (by decide) (by kernel_rfl) ⟨rfl, by decide, by decide⟩ ?F (fun _ _ _ _ z => z)
    intro w mg fa h Y Gm hmg0
    obtain ⟨K, KX, c, cc⟩ := Y
    have hmg : mg ("law" : PySem.Str) = some (.ref fa) := by
      have e : (HandSHeadRun.topDef R.prog 17).name = ("law" : PySem.Str) := by kernel_rfl
      rw [← e]
      exact hmg0
    obtain ⟨fd, hb, hF⟩ := facts (P := (PySem.Challenge.rw_nogapsleft_k59_whole_patterns_put_togeth).prog) (w := w) W KX Gm hmg c cc
    refine ⟨K, fd, spF K .ro 1 (callI fs W 12 11), KX, hb, fun H a ns hl _ hS => ?_, hF⟩
    obtain ⟨o, ho⟩ := plain ns hl
    refine ⟨rfl, fun _ => False, a, ns.map V.int, [], ns.map D.int, [], .bl true, o, fun _ z => z.elim, rfl, hS.elim (fun q => .inl ⟨_root_.id, q⟩) .inr, ?_, RpL.nil, ho, fun v H' _ r => by simpa only [Rp] using r⟩
    clear ho hS hl
    induction ns with
    | nil => exact RpL.nil
    | cons n ns ih => exact RpL.cons rp_int ih
end T59
end

theorem PySem.Challenge.cw_nogapsleft_k59_whole_patterns_put_togeth_holds : PySem.Challenge.rw_nogapsleft_k59_whole_patterns_put_togeth.Holds :=
  T59.holds_of 0 (fun ns h => Pat.law_P 0 ns h)
