import PyProof.Rows.All
import Wide.All
import OpenK.AllK
import Wide.FinOn
import HandS.ForMost
import HandS.ForExc
import HandS.Wide
import HandS.TupAny
import HandS.TupMul
import HandS.TupLe
import HandS.Style
import HandS.Conv
import HandS.IsInst
import HandS.Deep
import HandS.Zip
import HandS.Codes
import KE.GoesNew
import KE.GoesEnum
import HandS.TryOnly
import HandS.ExcIs
import HandS.Star
import HandS.SetFor
import PySem.Challenge.RW_weighplans_k51_best_plans_by_hand
import PyProof.TableCode

/-! D0: plain data, and what a program's pieces do with it. No Python here. -/
namespace DL

inductive D where
  | non | bl (b : Bool) | int (i : Int) | str (s : List Nat)
  | tup (xs : List D) | lst (xs : List D)
  | ref (n : Nat) | loc (i : Nat) | glb (k : Nat) | exc (c : Nat) | scr (xs : List D)

inductive Sl where
  | non | val (d : D) | own (xs : List D)
inductive Ob where
  | lst (xs : List D) | ins (c : Nat) (fs : List (Nat × D))
abbrev Env := List Sl
abbrev Store := List Ob

inductive Out (α : Type) where
  | ok (a : α) (e : Env) (S : Store) | exc (c : Nat) (e : Env) (S : Store) | stuck
def Out.bind {α β : Type} (o : Out α) (k : α → Env → Store → Out β) : Out β :=
  match o with
  | .ok a e S => k a e S
  | .exc c e S => .exc c e S
  | .stuck => .stuck
abbrev EM := Env → Store → Out D
abbrev BM := Env → Store → Out Bool
abbrev AM := Env → Store → Out (List D)
inductive SOut where
  | nx (e : Env) (S : Store) | rt (d : D) (S : Store) | bk (e : Env) (S : Store) | ct (e : Env) (S : Store)
  | exc (c : Nat) (e : Env) (S : Store) | stuck
abbrev SM := Env → Store → SOut
inductive Res where
  | ok (d : D) (S : Store) | exc (c : Nat) (S : Store) | stuck
abbrev Fn := List D → Store → Res

/-! names, constants -/
def dC (d : D) : EM := fun e S => .ok d e S
/-- a name that holds a plain value -/
def dV (i : Nat) : EM := fun e S => match e[i]? with
  | some (.val d) => .ok d e S
  | _ => .stuck
/-- a name that holds a list of its own: lent -/
def dO (i : Nat) : EM := fun e S => match e[i]? with
  | some (.own _) => .ok (.loc i) e S
  | _ => .stuck
/-- .. given away: the list stands still from now on -/
def dF (i : Nat) : EM := fun e S => match e[i]? with
  | some (.own xs) => .ok (.lst xs) (e.set i (.val (.lst xs))) S
  | _ => .stuck
/-- the list that is meant now -/
def look (e : Env) (S : Store) : D → D
  | .loc i => match e[i]? with
    | some (.own xs) => .lst xs
    | _ => .loc i
  | .ref n => match S[n]? with
    | some (.lst xs) => .lst xs
    | _ => .ref n
  | d => d

def dB1 (f : EM) (k : D → Option D) : EM := fun e S => (f e S).bind fun d e S => match k (look e S d) with
  | some r => .ok r e S
  | none => .stuck
def dB2 (f g : EM) (k : D → D → Option D) : EM := fun e S => (f e S).bind fun a e S => (g e S).bind fun b e S => match k (look e S a) (look e S b) with
  | some r => .ok r e S
  | none => .stuck
def dTest (f : EM) : BM := fun e S => (f e S).bind fun d e S => match d with
  | .bl b => .ok b e S
  | _ => .stuck
def bTrue : BM := fun e S => .ok true e S
def bAnd (f g : BM) : BM := fun e S => (f e S).bind fun b e S => if b then g e S else .ok false e S
def bOr (f g : BM) : BM := fun e S => (f e S).bind fun b e S => if b then .ok true e S else g e S
def bNot (f : BM) : BM := fun e S => (f e S).bind fun b e S => .ok (!b) e S
def dOfB (f : BM) : EM := fun e S => (f e S).bind fun b e S => .ok (.bl b) e S
def dIf (c : BM) (f g : EM) : EM := fun e S => (c e S).bind fun b e S => if b then f e S else g e S

/-! argument lists, displays, calls -/
def aNil : AM := fun e S => .ok [] e S
def aCons (f : EM) (g : AM) : AM := fun e S => (f e S).bind fun d e S => (g e S).bind fun ds e S => .ok (d :: ds) e S
def dTup (f : AM) : EM := fun e S => (f e S).bind fun ds e S => .ok (.tup ds) e S
def dLst (f : AM) : EM := fun e S => (f e S).bind fun ds e S => .ok (.lst ds) e S
def dCall (F : Fn) (f : AM) : EM := fun e S => (f e S).bind fun ds e S => match F ds S with
  | .ok d S => .ok d e S
  | .exc c S => .exc c e S
  | .stuck => .stuck
/-! statements -/
def sNext : SM := fun e S => .nx e S
def sSeq (f g : SM) : SM := fun e S => match f e S with
  | .nx e S => g e S
  | o => o
def sE {α : Type} (o : Out α) (k : α → Env → Store → SOut) : SOut := match o with
  | .ok a e S => k a e S
  | .exc c e S => .exc c e S
  | .stuck => .stuck
def sDrop (f : EM) : SM := fun e S => sE (f e S) fun _ e S => .nx e S
def sRet (f : EM) : SM := fun e S => sE (f e S) fun d _ S => .rt d S
def sRetN : SM := fun _ S => .rt .non S
def sIf (c : BM) (f g : SM) : SM := fun e S => sE (c e S) fun b e S => if b then f e S else g e S
def sRaise (c : Nat) : SM := fun e S => .exc c e S
/-- a target: takes a value -/
abbrev GM := D → Env → Store → SOut
def gName (i : Nat) : GM := fun d e S => .nx (e.set i (.val d)) S
def sAsg (f : EM) (g : GM) : SM := fun e S => sE (f e S) fun d e S => match g d e S with
  | .nx e S => .nx e S
  | _ => .stuck
def sOwn (i : Nat) (f : Env → Store → Out (List D)) : SM := fun e S => sE (f e S) fun xs e S => .nx (e.set i (.own xs)) S
/-- (a, b, ..) = a tuple -/
def gAll : List GM → List D → Env → Store → SOut
  | [], [], e, S => .nx e S
  | g :: gs, d :: ds, e, S => match g d e S with
    | .nx e S => gAll gs ds e S
    | o => o
  | _, _, _, _ => .stuck
def gTup (gs : List GM) : GM := fun d e S => match d with
  | .tup ds => if ds.length = gs.length then gAll gs ds e S else .stuck
  | _ => .stuck
/-! ## operators -/
mutual
/-- == as Python has it -/
def eqv : D → D → Bool
  | .non, .non => true
  | .bl a, .bl b => a == b
  | .bl a, .int j => (if a then 1 else 0) == j
  | .int i, .bl b => i == (if b then 1 else 0)
  | .int i, .int j => i == j
  | .str x, .str y => x == y
  | .tup xs, .tup ys => eqvs xs ys
  | .lst xs, .lst ys => eqvs xs ys
  | .lst xs, .scr ys => eqvs xs ys
  | .scr xs, .lst ys => eqvs xs ys
  | .scr xs, .scr ys => eqvs xs ys
  | _, _ => false
def eqvs : List D → List D → Bool
  | [], [] => true
  | x :: xs, y :: ys => eqv x y && eqvs xs ys
  | _, _ => false
end
mutual
/-- plain data, at most so deep -/
def okd : Nat → D → Bool
  | _, .non => true
  | _, .bl _ => true
  | _, .int _ => true
  | _, .str s => s.all (· < 1114112)
  | n, .tup xs => match n with | 0 => false | n + 1 => okds n xs
  | n, .lst xs => match n with | 0 => false | n + 1 => okds n xs
  | n, .scr xs => match n with | 0 => false | n + 1 => okds n xs
  | _, _ => false
def okds : Nat → List D → Bool
  | _, [] => true
  | n, x :: xs => okd n x && okds n xs
end
def opEq (x y : D) : Option D := if okd 9 x && okd 9 y then some (.bl (eqv x y)) else none
def opNe (x y : D) : Option D := if okd 9 x && okd 9 y then some (.bl (!eqv x y)) else none
def anyEq (x : D) : List D → Bool
  | [] => false
  | y :: ys => eqv y x || anyEq x ys
/-- is t within s -/
def subAt (t : List Nat) : List Nat → Bool
  | [] => t.isEmpty
  | c :: s => t.isPrefixOf (c :: s) || subAt t s
def opIn (x y : D) : Option D := match y with
  | .tup ys => if okd 9 x && okds 9 ys then some (.bl (anyEq x ys)) else none
  | .lst ys => if okd 9 x && okds 9 ys then some (.bl (anyEq x ys)) else none
  | _ => none
def opNotIn (x y : D) : Option D := match y with
  | .tup ys => if okd 9 x && okds 9 ys then some (.bl (!anyEq x ys)) else none
  | .lst ys => if okd 9 x && okds 9 ys then some (.bl (!anyEq x ys)) else none
  | _ => none
/-- is: None, True, False -/
def opIs (x y : D) : Option D := match x, y with
  | .non, .non => some (.bl true)
  | .bl a, .bl b => some (.bl (a == b))
  | .loc _, _ => none
  | .bl _, .non => some (.bl false)
  | .int _, .non => some (.bl false)
  | .str _, .non => some (.bl false)
  | .tup _, .non => some (.bl false)
  | .lst _, .non => some (.bl false)
  | .ref _, .non => some (.bl false)
  | .exc _, .non => some (.bl false)
  | _, _ => none
def opIsNot (x y : D) : Option D := match opIs x y with
  | some (.bl b) => some (.bl (!b))
  | _ => none
def allInts : List D → Option (List Int)
  | [] => some []
  | .int i :: xs => match allInts xs with
    | some is => some (i :: is)
    | none => none
  | _ => none
def lexLt : List Int → List Int → Bool
  | [], [] => false
  | [], _ :: _ => true
  | _ :: _, [] => false
  | x :: xs, y :: ys => if x = y then lexLt xs ys else decide (x < y)
def opLt (x y : D) : Option D := match x, y with
  | .int a, .int b => some (.bl (decide (a < b)))
  | .tup a, .tup b => match allInts a, allInts b with
    | some a, some b => some (.bl (lexLt a b))
    | _, _ => none
  | _, _ => none
def opGt (x y : D) : Option D := match x, y with
  | .int a, .int b => some (.bl (decide (b < a)))
  | _, _ => none
def opLe (x y : D) : Option D := match x, y with
  | .int a, .int b => some (.bl (decide (a ≤ b)))
  | _, _ => none
def opGe (x y : D) : Option D := match x, y with
  | .int a, .int b => some (.bl (decide (b ≤ a)))
  | _, _ => none
def opAdd (x y : D) : Option D := match x, y with
  | .int a, .int b => some (.int (a + b))
  | .str a, .str b => if a.length + b.length ≤ 16777216 then some (.str (a ++ b)) else none
  | .tup a, .tup b => if a.length + b.length ≤ 16777216 then some (.tup (a ++ b)) else none
  | .lst a, .lst b => if a.length + b.length ≤ 16777216 then some (.lst (a ++ b)) else none
  | _, _ => none
def opSub (x y : D) : Option D := match x, y with
  | .int a, .int b => some (.int (a - b))
  | _, _ => none
def mulOk (a b : Int) : Bool := decide (a.natAbs.log2 + b.natAbs.log2 < 1000000)
def divOk (b : Int) : Bool := decide (b ≠ 0) && decide (b.natAbs.log2 < 9000)
def repOk (n : Nat) (k : Int) : Bool := decide (-1000 ≤ k) && decide (k ≤ 1000) && decide (n ≤ 1000)
def opMul (x y : D) : Option D := match x, y with
  | .int a, .int b => if mulOk a b then some (.int (a * b)) else none
  | .lst a, .int k => if repOk a.length k then some (.lst (List.replicate k.toNat a).flatten) else none
  | .tup a, .int k => if repOk a.length k then some (.tup (List.replicate k.toNat a).flatten) else none
  | _, _ => none
def opDiv (x y : D) : Option D := match x, y with
  | .int a, .int b => if divOk b then some (.int (a.fdiv b)) else none
  | _, _ => none
def opMod (x y : D) : Option D := match x, y with
  | .int a, .int b => if b = 0 then none else some (.int (a.fmod b))
  | _, _ => none
def opPow (x y : D) : Option D := match x, y with
  | .int a, .int b => if decide (0 ≤ b) && decide (b ≤ 1000) && decide (a.natAbs < 18446744073709551616) then some (.int (a ^ b.toNat)) else none
  | _, _ => none
def opNeg (x : D) : Option D := match x with
  | .int a => some (.int (-a))
  | _ => none
def opNot (x : D) : Option D := match x with
  | .bl b => some (.bl (!b))
  | _ => none

/-! ## built-ins of one argument -/
def opLen (x : D) : Option D := match x with
  | .tup a => some (.int a.length)
  | .lst a => some (.int a.length)
  | .scr a => some (.int a.length)
  | .str s => if s.length ≤ 16777216 then some (.int s.length) else none
  | _ => none
def opAbs (x : D) : Option D := match x with
  | .int a => some (.int (if a < 0 then -a else a))
  | _ => none
def opInt (x : D) : Option D := match x with
  | .int a => some (.int a)
  | .bl b => some (.int (if b then 1 else 0))
  | _ => none
def opTuple (x : D) : Option D := match x with
  | .tup a => some (.tup a)
  | .lst a => some (.tup a)
  | _ => none
def opList (x : D) : Option D := match x with
  | .tup a => some (.lst a)
  | .lst a => some (.lst a)
  | .scr a => some (.lst a)
  | _ => none
def opSum (x : D) : Option D := match x with
  | .lst a => match allInts a with
    | some a => some (.int a.sum)
    | none => none
  | _ => none
def allBls : List D → Option (List Bool)
  | [] => some []
  | .bl i :: xs => match allBls xs with
    | some is => some (i :: is)
    | none => none
  | _ => none
def opAll (x : D) : Option D := match x with
  | .lst a => match allBls a with
    | some a => some (.bl (a.all id))
    | none => none
  | _ => none
def opAny (x : D) : Option D := match x with
  | .lst a => match allInts a with
    | some a => some (.bl (a.any (· != 0)))
    | none => none
  | .tup a => match allInts a with
    | some a => some (.bl (a.any (· != 0)))
    | none => none
  | _ => none
def maxOf : List Int → Option Int
  | [] => none
  | x :: xs => some (xs.foldl (fun a b => if a < b then b else a) x)
def minOf : List Int → Option Int
  | [] => none
  | x :: xs => some (xs.foldl (fun a b => if b < a then b else a) x)
def opMax (x : D) : Option D := match x with
  | .lst a => match allInts a with
    | some a => match maxOf a with
      | some m => some (.int m)
      | none => none
    | none => none
  | _ => none
def opMin (x : D) : Option D := match x with
  | .lst a => match allInts a with
    | some a => match minOf a with
      | some m => some (.int m)
      | none => none
    | none => none
  | _ => none
/-- a place of any sign -/
def atI (xs : List α) (i : Int) : Option α := if 0 ≤ i then xs[i.toNat]? else if -(xs.length : Int) ≤ i then xs[(i + xs.length).toNat]? else none
def opIx (x y : D) : Option D := match x, y with
  | .tup a, .int i => atI a i
  | .lst a, .int i => atI a i
  | .scr a, .int i => atI a i
  | _, _ => none

/-! ## more forms -/
abbrev LM := Env → Store → Out (List D)
def dAnd (f g : EM) : EM := fun e S => (f e S).bind fun d e S => match d with
  | .bl b => if b then g e S else .ok (.bl false) e S
  | _ => .stuck
def dOr (f g : EM) : EM := fun e S => (f e S).bind fun d e S => match d with
  | .bl b => if b then .ok (.bl true) e S else g e S
  | _ => .stuck
def dNot (f : EM) : EM := fun e S => (f e S).bind fun d e S => match d with
  | .bl b => .ok (.bl (!b)) e S
  | _ => .stuck
def dCh (f g h : EM) (k k' : D → D → Option D) : EM := fun e S => (f e S).bind fun a e S => (g e S).bind fun b e S => match k (look e S a) (look e S b) with
  | some (.bl true) => (h e S).bind fun c e S => match k' (look e S b) (look e S c) with
    | some r => .ok r e S
    | none => .stuck
  | some (.bl false) => .ok (.bl false) e S
  | _ => .stuck
def dFz (f : LM) : EM := fun e S => (f e S).bind fun xs e S => .ok (.lst xs) e S
def dNw (f : LM) : EM := fun e S => (f e S).bind fun xs e S => .ok (.ref S.length) e (S ++ [.lst xs])
def dB2F (f g : EM) (k : D → D → Option (List D)) : LM := fun e S => (f e S).bind fun a e S => (g e S).bind fun b e S => match k (look e S a) (look e S b) with
  | some r => .ok r e S
  | none => .stuck
def dB1F (f : EM) (k : D → Option (List D)) : LM := fun e S => (f e S).bind fun a e S => match k (look e S a) with
  | some r => .ok r e S
  | none => .stuck
def lsAdd (x y : D) : Option (List D) := match x, y with
  | .lst a, .lst b => if a.length + b.length ≤ 16777216 then some (a ++ b) else none
  | _, _ => none
def lsMul (x y : D) : Option (List D) := match x, y with
  | .lst a, .int k => if repOk a.length k then some (List.replicate k.toNat a).flatten else none
  | _, _ => none
def lsOf (x : D) : Option (List D) := match x with
  | .tup a => some a
  | .lst a => some a
  | .scr a => some a
  | _ => none
/-! ## loops -/
mutual
def same : D → D → Bool
  | .non, .non => true
  | .bl a, .bl b => a == b
  | .int a, .int b => a == b
  | .str a, .str b => a == b
  | .tup a, .tup b => sames a b
  | .lst a, .lst b => sames a b
  | .scr a, .scr b => sames a b
  | .ref a, .ref b => a == b
  | .loc a, .loc b => a == b
  | .glb a, .glb b => a == b
  | .exc a, .exc b => a == b
  | _, _ => false
def sames : List D → List D → Bool
  | [], [] => true
  | a :: as, b :: bs => same a b && sames as bs
  | _, _ => false
end
/-- what a loop walks: its items, and the lists of the store that must stand still meanwhile -/
structure Src where
  items : List D
  dyn : List (Nat × List D)
def still (dyn : List (Nat × List D)) (S : Store) : Bool := dyn.all fun p => match S[p.1]? with
  | some (.lst xs) => sames xs p.2
  | _ => false
abbrev IM := Env → Store → Out Src
/-- one loop's turns -/
def turns (dyn : List (Nat × List D)) (g : GM) (body : SM) : List D → Env → Store → SOut
  | [], e, S => if still dyn S then .nx e S else .stuck
  | d :: ds, e, S => if still dyn S then (match g d e S with
    | .nx e S => match body e S with
      | .nx e S => turns dyn g body ds e S
      | .ct e S => turns dyn g body ds e S
      | .bk e S => .nx e S
      | o => o
    | _ => .stuck) else .stuck
def sFor (it : IM) (g : GM) (body : SM) : SM := fun e S => sE (it e S) fun s e S => turns s.dyn g body s.items e S
/-- while, at most so many turns -/
def whileN (c : BM) (body : SM) : Nat → Env → Store → SOut
  | 0, _, _ => .stuck
  | n + 1, e, S => sE (c e S) fun b e S => if b then (match body e S with
    | .nx e S => whileN c body n e S
    | .ct e S => whileN c body n e S
    | .bk e S => .nx e S
    | o => o) else .nx e S
def sWhile (fuel : Env → Store → Nat) (c : BM) (body : SM) : SM := fun e S => whileN c body (fuel e S) e S
/-- what is walked: a list or a tuple -/
def srcOf : D → Option (List D)
  | .tup xs => some xs
  | .lst xs => some xs
  | .scr xs => some xs
  | _ => none
/-- .. as it is lent -/
def srcD (S : Store) (d : D) : Option Src := match d with
  | .tup xs => some ⟨xs, []⟩
  | .lst xs => some ⟨xs, []⟩
  | .scr xs => some ⟨xs, []⟩
  | .ref n => match S[n]? with
    | some (.lst xs) => some ⟨xs, [(n, xs)]⟩
    | _ => none
  | _ => none
def iSeq (f : EM) : IM := fun e S => (f e S).bind fun d e S => match srcD S d with
  | some s => .ok s e S
  | none => .stuck
def rangeOk (a b : Int) : Bool := decide (a.natAbs < 4611686018427387904) && decide (b.natAbs < 4611686018427387904)
def rngL (a : Int) (n : Nat) : List D := (List.range n).map fun i => .int (a + (i : Nat))
def iRng1 (f : EM) : IM := fun e S => (f e S).bind fun d e S => match d with
  | .int n => if rangeOk 0 n then .ok ⟨rngL 0 n.toNat, []⟩ e S else .stuck
  | _ => .stuck
def iRng2 (f g : EM) : IM := fun e S => (f e S).bind fun a e S => (g e S).bind fun b e S => match a, b with
  | .int a, .int b => if rangeOk a b then .ok ⟨rngL a (b - a).toNat, []⟩ e S else .stuck
  | _, _ => .stuck
def pairUp : List D → List D → List D
  | x :: xs, y :: ys => .tup [x, y] :: pairUp xs ys
  | _, _ => []
def iZip (f g : EM) : IM := fun e S => (f e S).bind fun a e S => (g e S).bind fun b e S => match srcD S a, srcD S b with
  | some s, some t => .ok ⟨pairUp s.items t.items, s.dyn ++ t.dyn⟩ e S
  | _, _ => .stuck
def numbered : Nat → List D → List D
  | _, [] => []
  | n, x :: xs => .tup [.int n, x] :: numbered (n + 1) xs
def iEnum (f : EM) : IM := fun e S => (f e S).bind fun a e S => match srcD S a with
  | some s => .ok ⟨numbered 0 s.items, s.dyn⟩ e S
  | none => .stuck
def iEnumZip (f g : EM) : IM := fun e S => (f e S).bind fun a e S => (g e S).bind fun b e S => match srcD S a, srcD S b with
  | some s, some t => .ok ⟨numbered 0 (pairUp s.items t.items), s.dyn ++ t.dyn⟩ e S
  | _, _ => .stuck
/-! comprehensions: vs are the block's own names -/
def wipes : List Nat → Env → Env
  | [], e => e
  | v :: vs, e => (wipes vs e).set v .non
/-- the slots vs as they were in e0 -/
def unwipe (e0 : Env) : List Nat → Env → Env
  | [], e => e
  | v :: vs, e => unwipe e0 vs (match e0[v]? with
    | some (.val d) => e.set v (.val d)
    | _ => e.set v .non)
def lcT (dyn : List (Nat × List D)) (vs : List Nat) (g : GM) (t : BM) (f : EM) : List D → List D → Env → Store → Out (List D)
  | [], acc, e, S => if still dyn S then .ok acc e S else .stuck
  | d :: ds, acc, e, S => if still dyn S then (match g d e S with
    | .nx e S => match t e S with
      | .ok b e S => if b then (match f e S with
          | .ok x e S => lcT dyn vs g t f ds (acc ++ [x]) (wipes vs e) S
          | _ => .stuck) else lcT dyn vs g t f ds acc (wipes vs e) S
      | _ => .stuck
    | _ => .stuck) else .stuck
def lLc (vs : List Nat) (it : IM) (g : GM) (t : BM) (f : EM) : LM := fun e S => (it e S).bind fun s e S =>
  if s.items.length ≤ 16777216 then (lcT s.dyn vs g t f s.items [] (wipes vs e) S).bind fun xs e' S => .ok xs (unwipe e vs e') S else .stuck
def lcT1 (dyn : List (Nat × List D)) (vs : List Nat) (g : GM) (t : BM) (f : EM) : List D → List D → Env → Store → Out (List D)
  | [], acc, e, S => if still dyn S then .ok acc e S else .stuck
  | d :: ds, acc, e, S => if still dyn S then (match g d e S with
    | .nx e S => match t e S with
      | .ok b e S => if b then (match f e S with
          | .ok x e S => if acc.length < 16777216 then lcT1 dyn vs g t f ds (acc ++ [x]) (wipes vs e) S else .stuck
          | _ => .stuck) else lcT1 dyn vs g t f ds acc (wipes vs e) S
      | _ => .stuck
    | _ => .stuck) else .stuck
/-- two clauses; vs: both targets' names, vs1: the second's -/
def lcT2 (dyn : List (Nat × List D)) (vs vs1 : List Nat) (g : GM) (t : BM) (it1 : IM) (g1 : GM) (t1 : BM) (f : EM) : List D → List D → Env → Store → Out (List D)
  | [], acc, e, S => if still dyn S then .ok acc e S else .stuck
  | d :: ds, acc, e, S => if still dyn S then (match g d e S with
    | .nx e S => match t e S with
      | .ok b e S => if b then (match it1 e S with
          | .ok s1 e S => match lcT1 s1.dyn vs1 g1 t1 f s1.items acc (wipes vs1 e) S with
            | .ok acc e S => lcT2 dyn vs vs1 g t it1 g1 t1 f ds acc (wipes vs e) S
            | _ => .stuck
          | _ => .stuck) else lcT2 dyn vs vs1 g t it1 g1 t1 f ds acc (wipes vs e) S
      | _ => .stuck
    | _ => .stuck) else .stuck
def lLc2 (vs vs1 : List Nat) (it : IM) (g : GM) (t : BM) (it1 : IM) (g1 : GM) (t1 : BM) (f : EM) : LM := fun e S => (it e S).bind fun s e S =>
  (lcT2 s.dyn vs vs1 g t it1 g1 t1 f s.items [] (wipes vs e) S).bind fun xs e' S => .ok xs (unwipe e vs e') S

/-! the body of a def -/
def start (n : Nat) (ds : List D) : Env := ds.map .val ++ List.replicate (n - ds.length) .non
def fnOf (n : Nat) (body : SM) : Fn := fun ds S => match body (start n ds) S with
  | .nx _ S => .ok .non S
  | .rt d S => .ok d S
  | .exc c _ S => .exc c S
  | _ => .stuck
end DL

/-! D1: more of what pieces do. -/
namespace DL
def lexLe : List Int → List Int → Bool
  | [], _ => true
  | _ :: _, [] => false
  | a :: as, b :: bs => if a = b then lexLe as bs else decide (a ≤ b)
def lexLt2 : List (List Int) → List (List Int) → Bool
  | [], [] => false
  | [], _ :: _ => true
  | _ :: _, [] => false
  | a :: as, b :: bs => if a = b then lexLt2 as bs else lexLt a b
def allTups : List D → Option (List (List Int))
  | [] => some []
  | .tup a :: xs => match allInts a, allTups xs with
    | some a, some b => some (a :: b)
    | _, _ => none
  | _ => none
def opLt2 (x y : D) : Option D := match x, y with
  | .int a, .int b => some (.bl (decide (a < b)))
  | .tup a, .tup b => match allInts a, allInts b with
    | some a, some b => some (.bl (lexLt a b))
    | _, _ => match allTups a, allTups b with
      | some a, some b => some (.bl (lexLt2 a b))
      | _, _ => none
  | _, _ => none
def opLe2 (x y : D) : Option D := match x, y with
  | .int a, .int b => some (.bl (decide (a ≤ b)))
  | .tup a, .tup b => match allInts a, allInts b with
    | some a, some b => some (.bl (lexLe a b))
    | _, _ => none
  | _, _ => none
/-! what a value is -/
inductive Ty where | non | bl | int | str | tup | lst
  deriving DecidableEq
def tyOf : D → Option Ty
  | .non => some .non
  | .bl _ => some .bl
  | .int _ => some .int
  | .str _ => some .str
  | .tup _ => some .tup
  | .lst _ => some .lst
  | _ => none
def isTy (c t : Ty) : Bool := t == c || (t == .bl && c == .int)
def opIsA (c : Ty) (x : D) : Option D := match tyOf x with
  | some t => some (.bl (isTy c t))
  | none => none
/-! slices -/
abbrev OM := Env → Store → Out (Option Int)
def oNone : OM := fun e S => .ok none e S
def oSome (f : EM) : OM := fun e S => (f e S).bind fun d e S => match d with
  | .int i => .ok (some i) e S
  | _ => .stuck
def cutIx (n d : Nat) : Option Int → Nat
  | none => d
  | some v => if 0 ≤ v then min v.toNat n else (n + v).toNat
def cutD {α : Type} (xs : List α) (lo hi : Option Int) : List α := (xs.drop (cutIx xs.length 0 lo)).take (cutIx xs.length xs.length hi - cutIx xs.length 0 lo)
def opCut (x : D) (lo hi : Option Int) : Option D := match x with
  | .tup a => some (.tup (cutD a lo hi))
  | .lst a => some (.lst (cutD a lo hi))
  | .scr a => some (.lst (cutD a lo hi))
  | _ => none
def dSl (f : EM) (l h : OM) : EM := fun e S => (f e S).bind fun a e S => (l e S).bind fun lo e S => (h e S).bind fun hi e S => match opCut (look e S a) lo hi with
  | some r => .ok r e S
  | none => .stuck
/-! stores into a list -/
def placeOf (n : Nat) (i : Int) : Option Nat := if 0 ≤ i then (if i < n then some i.toNat else none) else if -(n : Int) ≤ i then some (n + i).toNat else none
def putAt (v : D) (a : D) (k : Int) (e : Env) (S : Store) : SOut := match a with
  | .loc i => match e[i]? with
    | some (.own xs) => match placeOf xs.length k with
      | some j => .nx (e.set i (.own (xs.set j v))) S
      | none => .stuck
    | _ => .stuck
  | .ref n => match S[n]? with
    | some (.lst xs) => match placeOf xs.length k with
      | some j => .nx e (S.set n (.lst (xs.set j v)))
      | none => .stuck
    | _ => .stuck
  | _ => .stuck
def gSub (f g : EM) : GM := fun v e S => match f e S with
  | .ok a e S => match g e S with
    | .ok (.int k) e S => putAt v a k e S
    | _ => .stuck
  | _ => .stuck
/-! a, b = c, d by itself -/
def sPar2 (i j : Nat) (f : AM) : SM := fun e S => sE (f e S) fun ds e S => match ds with
  | [a, b] => .nx ((e.set i (.val a)).set j (.val b)) S
  | _ => .stuck
def sPar3 (i j k : Nat) (f : AM) : SM := fun e S => sE (f e S) fun ds e S => match ds with
  | [a, b, c] => .nx (((e.set i (.val a)).set j (.val b)).set k (.val c)) S
  | _ => .stuck
/-- what is not reached -/
def sStuck : SM := fun _ _ => .stuck
def dStuck : EM := fun _ _ => .stuck
def fStuck : Fn := fun _ _ => .stuck
end DL
namespace DL
/-! list methods -/
def pushAt (v a : D) (e : Env) (S : Store) : Out D := match a with
  | .loc i => match e[i]? with
    | some (.own xs) => if xs.length < 16777216 then .ok .non (e.set i (.own (xs ++ [v]))) S else .stuck
    | _ => .stuck
  | .ref n => match S[n]? with
    | some (.lst xs) => if xs.length < 16777216 then .ok .non e (S.set n (.lst (xs ++ [v]))) else .stuck
    | _ => .stuck
  | _ => .stuck
def dApp (f g : EM) : EM := fun e S => (f e S).bind fun a e S => match look e S a with
  | .lst _ => (g e S).bind fun v e S => pushAt v a e S
  | _ => .stuck
def popAt (a : D) (e : Env) (S : Store) : Out D := match a with
  | .loc i => match e[i]? with
    | some (.own xs) => match xs[xs.length - 1]? with
      | some y => .ok y (e.set i (.own xs.dropLast)) S
      | none => .stuck
    | _ => .stuck
  | .ref n => match S[n]? with
    | some (.lst xs) => match xs[xs.length - 1]? with
      | some y => .ok y e (S.set n (.lst xs.dropLast))
      | none => .stuck
    | _ => .stuck
  | _ => .stuck
def dPop (f : EM) : EM := fun e S => (f e S).bind fun a e S => popAt a e S
/-- how long a loop may run: by an int -/
def fuelI (i : Nat) : Env → Store → Nat := fun e _ => match e[i]? with
  | some (.val (.int k)) => k.natAbs + 1
  | _ => 0
def fuelN (n : Nat) : Env → Store → Nat := fun _ _ => n
end DL

/-! D2: still more of what pieces do. -/
namespace DL
def opMin2 (x y : D) : Option D := match x, y with
  | .int a, .int b => some (.int (if b < a then b else a))
  | _, _ => none
def opMax2 (x y : D) : Option D := match x, y with
  | .int a, .int b => some (.int (if b > a then b else a))
  | _, _ => none
def dB2P (f g : EM) (k : D → D → Option D) : EM := fun e S => (f e S).bind fun a e S => (g e S).bind fun b e S => match k a b with
  | some r => .ok r e S
  | none => .stuck
end DL

/-! D3: still more of what pieces do: turned round; enumerate of zip. -/
namespace DL
def opRev (x : D) : Option D := match x with
  | .tup a => some (.tup a.reverse)
  | .lst a => some (.lst a.reverse)
  | _ => none
/-- a name that holds a list of its own, given away now or before -/
def dG (i : Nat) : EM := fun e S => match e[i]? with
  | some (.own xs) => .ok (.lst xs) (e.set i (.val (.lst xs))) S
  | some (.val d) => .ok d e S
  | _ => .stuck
/-- any of truth values -/
def opAnyB (x : D) : Option D := match x with
  | .lst a => match allBls a with
    | some a => some (.bl (a.any id))
    | none => none
  | _ => none
/-- try: body / except X as (slot i): (slot j) = (slot i); the classes that X catches: ok -/
def sTryK (i j : Nat) (ok : List Nat) (body : SM) : SM := fun e S => match body e S with
  | .exc c e S => if ok.contains c then .nx ((e.set j (.val (.exc c))).set i .non) S else .stuck
  | o => o
/-- the numbers of the classes of errors -/
def okL : List Nat := [1, 2, 3, 4, 5, 6, 7, 8, 9, 10, 11, 12, 13, 14, 15, 16, 17, 18, 19, 20]
/-- f(..), f told by the number of a def -/
def tblAt (tbl : List (Nat × Fn)) (k : Nat) : Option Fn := match tbl with
  | [] => none
  | p :: r => if p.1 = k then some p.2 else tblAt r k
def dCallF (tbl : List (Nat × Fn)) (f : EM) (fa : AM) : EM := fun e S => (f e S).bind fun d e S => match d with
  | .glb k => match tblAt tbl k with
    | some F => dCall F fa e S
    | none => .stuck
  | _ => .stuck
/-- isinstance of a caught exception -/
def opIsE (ok : List Nat) (n : Nat) (x : D) : Option D := match x with
  | .exc c => if ok.contains c then some (.bl (c == n)) else none
  | _ => none
def opIsVE (ok : List Nat) (x : D) : Option D := match x with
  | .exc c => if ok.contains c then some (.bl true) else none
  | _ => none
/-- l.index(x), l.count(x) -/
def findEq (x : D) : List D → Option Nat
  | [] => none
  | y :: ys => if eqv y x then some 0 else (findEq x ys).map (· + 1)
def opIndex (l x : D) : Option D := match l with
  | .lst ys => if okds 8 ys && okd 8 x then (findEq x ys).map fun n => .int n else none
  | _ => none
def opCntB (l x : D) : Option D := match l, x with
  | .lst ys, .bl b => match allBls ys with
    | some bs => some (.int (bs.count b))
    | none => none
  | _, _ => none
/-- l.m(x) of a list -/
def dM1 (f g : EM) (k : D → D → Option D) : EM := fun e S => (f e S).bind fun a e S => match look e S a with
  | .lst _ => (g e S).bind fun b e S => match k (look e S a) b with
    | some r => .ok r e S
    | none => .stuck
  | _ => .stuck
end DL

set_option Elab.async false
set_option linter.all false
set_option maxRecDepth 100000
set_option maxHeartbeats 4000000
namespace DL
open PySem PySem.Spec PyProof.Rows L2
abbrev St := L2.St

/-! ## values and objects -/
inductive ZO where
  | tup (vs : List V) | lst (vs : List V) | exc (c : Nat)
/-- the module's names by number -/
structure Glb where
  cls : Nat → Addr
  glb : Nat → V
  fnm : Nat → Str
structure Wd where
  Z : Addr → Option ZO
  sc : Addr → List V → Prop
  ρ : List Addr
  g : Glb
mutual
def Rep (W : Wd) : D → V → Prop
  | .non, v => v = .non
  | .bl b, v => v = .bl b
  | .int i, v => v = .int i
  | .str s, v => v = .str ⟨s.toArray⟩
  | .tup ds, v => ∃ a vs, v = .ref a ∧ W.Z a = some (.tup vs) ∧ Reps W ds vs
  | .lst ds, v => ∃ a vs, v = .ref a ∧ W.Z a = some (.lst vs) ∧ Reps W ds vs
  | .scr ds, v => ∃ a vs, v = .ref a ∧ W.sc a vs ∧ Reps W ds vs
  | .ref n, v => ∃ a, v = .ref a ∧ W.ρ[n]? = some a
  | .loc _, _ => False
  | .glb k, v => v = W.g.glb k
  | .exc c, v => ∃ a, v = .ref a ∧ W.Z a = some (.exc c)
def Reps (W : Wd) : List D → List V → Prop
  | [], vs => vs = []
  | d :: ds, vs => ∃ v ws, vs = v :: ws ∧ Rep W d v ∧ Reps W ds ws
end
/-- a value that may be lent by a slot -/
def RepB (W : Wd) (σ : St) : D → V → Prop
  | .loc i, v => σ[i]? = some (some v)
  | d, v => Rep W d v
theorem Rep.b {W : Wd} {σ : St} {d : D} {v : V} (h : Rep W d v) : RepB W σ d v := by
  cases d <;> first | exact h | exact False.elim h
theorem Reps.length {W : Wd} : ∀ {ds : List D} {vs : List V}, Reps W ds vs → ds.length = vs.length
  | [], vs, h => by cases (show vs = [] from h); rfl
  | d :: ds, vs, h => by
    obtain ⟨v, ws, rfl, _, h⟩ := h
    rw [List.length_cons, List.length_cons, Reps.length h]
theorem Reps.get {W : Wd} : ∀ {ds : List D} {vs : List V} {i : Nat} {d : D}, Reps W ds vs → ds[i]? = some d → ∃ v, vs[i]? = some v ∧ Rep W d v
  | [], _, _, _, _, e => by simp at e
  | _ :: _, vs, 0, d, h, e => by
    obtain ⟨v, ws, rfl, r, _⟩ := h
    simp at e; subst e; exact ⟨v, rfl, r⟩
  | _ :: ds, vs, i + 1, d, h, e => by
    obtain ⟨v, ws, rfl, _, h⟩ := h
    obtain ⟨u, h1, h2⟩ := Reps.get (i := i) h (by simpa using e)
    exact ⟨u, by simpa using h1, h2⟩
theorem Reps.nil {W : Wd} : Reps W [] [] := rfl
theorem Reps.cons {W : Wd} {d : D} {v : V} {ds : List D} {vs : List V} (h : Rep W d v) (t : Reps W ds vs) : Reps W (d :: ds) (v :: vs) := ⟨v, vs, rfl, h, t⟩
theorem Reps.append {W : Wd} : ∀ {ds es : List D} {vs ws : List V}, Reps W ds vs → Reps W es ws → Reps W (ds ++ es) (vs ++ ws)
  | [], _, vs, _, h, k => by cases (show vs = [] from h); exact k
  | _ :: _, _, vs, _, h, k => by
    obtain ⟨v, us, rfl, r, h⟩ := h
    exact .cons r (Reps.append h k)
theorem Reps.set {W : Wd} {x : D} {u : V} (r : Rep W x u) : ∀ {ds : List D} {vs : List V} (i : Nat), Reps W ds vs → Reps W (ds.set i x) (vs.set i u)
  | [], vs, _, h => by cases (show vs = [] from h); exact rfl
  | _ :: _, vs, 0, h => by
    obtain ⟨v, us, rfl, _, h⟩ := h
    exact .cons r h
  | _ :: _, vs, i + 1, h => by
    obtain ⟨v, us, rfl, q, h⟩ := h
    exact .cons q (Reps.set r i h)
theorem Reps.take {W : Wd} : ∀ {ds : List D} {vs : List V} (n : Nat), Reps W ds vs → Reps W (ds.take n) (vs.take n)
  | _, _, 0, _ => by simpa using Reps.nil
  | [], vs, _ + 1, h => by cases (show vs = [] from h); exact rfl
  | _ :: _, vs, n + 1, h => by
    obtain ⟨v, us, rfl, q, h⟩ := h
    exact .cons q (Reps.take n h)
theorem Reps.drop {W : Wd} : ∀ {ds : List D} {vs : List V} (n : Nat), Reps W ds vs → Reps W (ds.drop n) (vs.drop n)
  | ds, vs, 0, h => by simpa using h
  | [], vs, _ + 1, h => by cases (show vs = [] from h); exact rfl
  | _ :: _, vs, n + 1, h => by
    obtain ⟨v, us, rfl, q, h⟩ := h
    exact Reps.drop n h
theorem Reps.eraseIdx {W : Wd} : ∀ {ds : List D} {vs : List V} (n : Nat), Reps W ds vs → Reps W (ds.eraseIdx n) (vs.eraseIdx n)
  | [], vs, _, h => by cases (show vs = [] from h); exact rfl
  | _ :: _, vs, 0, h => by
    obtain ⟨v, us, rfl, q, h⟩ := h
    exact h
  | _ :: _, vs, n + 1, h => by
    obtain ⟨v, us, rfl, q, h⟩ := h
    exact .cons q (Reps.eraseIdx n h)
theorem Reps.nil_of {W : Wd} {ds : List D} {vs : List V} (h : Reps W ds vs) : ds = [] ↔ vs = [] := by
  have e := h.length
  constructor
  · rintro rfl; exact List.eq_nil_of_length_eq_zero e.symm
  · rintro rfl; exact List.eq_nil_of_length_eq_zero e
/-- all items are of the same kind, by a function -/
theorem Reps.map {W : Wd} {α : Type} (f : α → D) (g : α → V) (h : ∀ a v, Rep W (f a) v → v = g a) : ∀ {xs : List α} {vs : List V}, Reps W (xs.map f) vs → vs = xs.map g
  | [], vs, r => r
  | a :: xs, vs, r => by
    obtain ⟨v, us, rfl, q, r⟩ := r
    rw [List.map_cons, h a v q, Reps.map f g h r]

/-! ## worlds that grow -/
structure Le (W W' : Wd) : Prop where
  z : ∀ a x, W.Z a = some x → W'.Z a = some x
  sc : W'.sc = W.sc
  ρ : ∃ r, W'.ρ = W.ρ ++ r
  g : W'.g = W.g
theorem Le.refl (W : Wd) : Le W W := ⟨fun _ _ h => h, rfl, ⟨[], by simp⟩, rfl⟩
theorem Le.trans {W1 W2 W3 : Wd} (a : Le W1 W2) (b : Le W2 W3) : Le W1 W3 := by
  obtain ⟨r, h⟩ := a.ρ
  obtain ⟨r', h'⟩ := b.ρ
  exact ⟨fun x y h => b.z _ _ (a.z _ _ h), b.sc.trans a.sc, ⟨r ++ r', by rw [h', h, List.append_assoc]⟩, b.g.trans a.g⟩
mutual
theorem Rep.mono {W W' : Wd} (l : Le W W') : ∀ {d : D} {v : V}, Rep W d v → Rep W' d v
  | .non, _, h => h
  | .bl _, _, h => h
  | .int _, _, h => h
  | .str _, _, h => h
  | .tup _, _, h => by
    obtain ⟨a, vs, e, z, r⟩ := h
    exact ⟨a, vs, e, l.z _ _ z, Reps.mono l r⟩
  | .lst _, _, h => by
    obtain ⟨a, vs, e, z, r⟩ := h
    exact ⟨a, vs, e, l.z _ _ z, Reps.mono l r⟩
  | .scr _, _, h => by
    obtain ⟨a, vs, e, z, r⟩ := h
    exact ⟨a, vs, e, by rw [l.sc]; exact z, Reps.mono l r⟩
  | .ref n, _, h => by
    obtain ⟨a, e, z⟩ := h
    obtain ⟨r, q⟩ := l.ρ
    exact ⟨a, e, by rw [q, List.getElem?_append_left (List.getElem?_eq_some_iff.mp z).1]; exact z⟩
  | .loc _, _, h => False.elim h
  | .glb k, v, h => by
    have e : v = W.g.glb k := h
    show v = W'.g.glb k
    rw [l.g]; exact e
  | .exc _, _, h => by
    obtain ⟨a, e, z⟩ := h
    exact ⟨a, e, l.z _ _ z⟩
theorem Reps.mono {W W' : Wd} (l : Le W W') : ∀ {ds : List D} {vs : List V}, Reps W ds vs → Reps W' ds vs
  | [], _, h => h
  | _ :: _, _, h => by
    obtain ⟨v, ws, e, r, q⟩ := h
    exact ⟨v, ws, e, Rep.mono l r, Reps.mono l q⟩
end
theorem RepB.mono {W W' : Wd} {σ : St} (l : Le W W') {d : D} {v : V} (h : RepB W σ d v) : RepB W' σ d v := by
  cases d <;> first | exact h | exact Rep.mono l h

/-! ## the state -/
/-- a caught exception of the class at C, held at a -/
def ExcAt (C a : Addr) (h : Heap) : Prop := ∃ o, PySem.W.InstAt h a o C none
def ZOk (g : Glb) (H : Hp) (a : Addr) : ZO → Prop
  | .tup vs => H a = some (.tup vs)
  | .lst vs => H a = some (.lst vs)
  | .exc c => H a = some (.ext (ExcAt (g.cls c) a))
inductive FsR (W : Wd) : List (Nat × D) → List (Str × V) → Prop where
  | nil : FsR W [] []
  | cons {k d v fs vs} : Rep W d v → FsR W fs vs → FsR W ((k, d) :: fs) ((W.g.fnm k, v) :: vs)
theorem FsR.mono {W W' : Wd} (l : Le W W') : ∀ {fs vs}, FsR W fs vs → FsR W' fs vs
  | _, _, .nil => .nil
  | _, _, .cons (k := k) r t => by
    rw [← l.g]
    exact .cons (r.mono l) (FsR.mono l t)
def ObR (W : Wd) (H : Hp) (a : Addr) : Ob → Prop
  | .lst ds => ∃ vs, H a = some (.lst vs) ∧ Reps W ds vs
  | .ins c fs => ∃ dx vfs, H a = some (.ins (W.g.cls c) dx vfs) ∧ FsR W fs vfs
structure Rel (K : PySem.W.Frag) (G : Glb) (W : Wd) (σ : St) (H : Hp) (env : Env) (S : Store) : Prop where
  g : W.g = G
  len : env.length = σ.length
  fz : ∀ a z, W.Z a = some z → ZOk W.g H a z ∧ a ∉ W.ρ
  sc : ∀ a vs, W.sc a vs → SqL K (fun _ => none) a vs ∨ ∃ o, H a = some (.frz o (.lst vs))
  sl : W.ρ.length = S.length
  st : ∀ (n : Nat) (o : Ob), S[n]? = some o → ∃ a, W.ρ[n]? = some a ∧ ObR W H a o
  inj : W.ρ.Nodup
  va : ∀ (i : Nat) (d : D), env[i]? = some (.val d) → ∃ v, σ[i]? = some (some v) ∧ Rep W d v
  ow : ∀ (i : Nat) (xs : List D), env[i]? = some (.own xs) → ∃ a vs, σ[i]? = some (some (.ref a)) ∧ H a = some (.lst vs) ∧ Reps W xs vs ∧ W.Z a = none ∧ a ∉ W.ρ
  sep : ∀ (i j : Nat) (xs ys : List D) (a : Addr), env[i]? = some (.own xs) → env[j]? = some (.own ys) → σ[i]? = some (some (.ref a)) → σ[j]? = some (some (.ref a)) → i = j
def Owned (env : Env) (σ : St) (a : Addr) : Prop := ∃ (i : Nat) (xs : List D), env[i]? = some (.own xs) ∧ σ[i]? = some (some (.ref a))
/-- what has changed -/
structure Aft (W : Wd) (σ : St) (H : Hp) (env : Env) (W' : Wd) (σ' : St) (H' : Hp) (env' : Env) : Prop where
  le : Le W W'
  keep : ∀ a o, H a = some o → a ∉ W.ρ → ¬ Owned env σ a → H' a = some o
  tr : ∀ a, H a ≠ none → H' a ≠ none
  nw : ∀ a, a ∈ W'.ρ → a ∈ W.ρ ∨ H a = none
  zs : ∀ a, W'.Z a ≠ none → W.Z a ≠ none ∨ H a = none ∨ Owned env σ a
  ow : ∀ a, Owned env' σ' a → Owned env σ a ∨ H a = none
theorem Aft.refl {W : Wd} {σ : St} {H : Hp} {env : Env} : Aft W σ H env W σ H env :=
  ⟨.refl W, fun _ _ h _ _ => h, fun _ h => h, fun _ h => .inl h, fun _ h => .inl h, fun _ h => .inl h⟩
theorem Aft.trans {W1 W2 W3 : Wd} {σ1 σ2 σ3 : St} {H1 H2 H3 : Hp} {e1 e2 e3 : Env} (a : Aft W1 σ1 H1 e1 W2 σ2 H2 e2) (b : Aft W2 σ2 H2 e2 W3 σ3 H3 e3) : Aft W1 σ1 H1 e1 W3 σ3 H3 e3 := by
  have fr : ∀ x, H2 x = none → H1 x = none := fun x h => Classical.byContradiction fun q => a.tr x q h
  refine ⟨a.le.trans b.le, fun x o h n m => ?_, fun x h => b.tr x (a.tr x h), fun x h => ?_, fun x h => ?_, fun x h => ?_⟩
  · refine b.keep x o (a.keep x o h n m) (fun q => ?_) (fun q => ?_)
    · rcases a.nw x q with z | z
      · exact n z
      · rw [h] at z; cases z
    · rcases a.ow x q with z | z
      · exact m z
      · rw [h] at z; cases z
  · rcases b.nw x h with z | z
    · exact a.nw x z
    · exact .inr (fr x z)
  · rcases b.zs x h with z | z | z
    · exact a.zs x z
    · exact .inr (.inl (fr x z))
    · rcases a.ow x z with z | z
      · exact .inr (.inr z)
      · exact .inr (.inl z)
  · rcases b.ow x h with z | z
    · exact a.ow x z
    · exact .inr (fr x z)
theorem not_owned_nil {σ : St} {a : Addr} : ¬ Owned [] σ a := fun ⟨i, xs, h, _⟩ => by simp at h
/-- the slots forgotten -/
theorem Rel.drop {K : PySem.W.Frag} {G : Glb} {W : Wd} {σ : St} {H : Hp} {env : Env} {S : Store} (r : Rel K G W σ H env S) : Rel K G W [] H [] S :=
  ⟨r.g, rfl, r.fz, r.sc, r.sl, r.st, r.inj, fun i d h => by simp at h, fun i d h => by simp at h, fun i j xs ys a h => by simp at h⟩
theorem Aft.drop {W W' : Wd} {σ σ' : St} {H H' : Hp} {env env' : Env} (a : Aft W σ H env W' σ' H' env') : Aft W σ H env W' [] H' [] :=
  ⟨a.le, a.keep, a.tr, a.nw, a.zs, fun _ h => (not_owned_nil h).elim⟩

/-! ## the judgements -/
def Post (K : PySem.W.Frag) (G : Glb) {α β : Type} (R : Wd → St → α → β → Prop) (Wx : WX) (W : Wd) (σ : St) (H : Hp) (env : Env) (Q : β → Hp → Prop) : Out α → Prop
  | .ok a e S => ∀ W' H' b, Aft W σ H env W' σ H' e → Rel K G W' σ H' e S → R W' σ a b → Q b H'
  | .exc c e S => ∀ W' H', Aft W σ H env W' σ H' e → Rel K G W' σ H' e S → Wx (.ref (G.cls c)) none σ H'
  | .stuck => False
def RP : Wd → St → D → V → Prop := fun W _ d v => Rep W d v
def RB : Wd → St → D → V → Prop := fun W σ d v => RepB W σ d v
def RL : Wd → St → List D → List V → Prop := fun W _ d v => Reps W d v
def RT : Wd → St → Bool → Bool → Prop := fun _ _ a b => a = b
section
variable {K : PySem.W.Frag} {G : Glb} {α β α0 β0 : Type} {R : Wd → St → α → β → Prop} {R0 : Wd → St → α0 → β0 → Prop} {Wx : WX} {W W' : Wd} {σ : St} {H H' : Hp} {env e' : Env} {Q : β → Hp → Prop} {Q0 : β0 → Hp → Prop}
theorem Post.after {o : Out α} (h : Post K G R Wx W σ H env Q o) (a : Aft W σ H env W' σ H' e') : Post K G R Wx W' σ H' e' Q o := by
  cases o with
  | ok x e S => exact fun W2 H2 b a2 r2 q => h W2 H2 b (a.trans a2) r2 q
  | exc c e S => exact fun W2 H2 a2 r2 => h W2 H2 (a.trans a2) r2
  | stuck => exact h
theorem Post.seq {o : Out α0} {k : α0 → Env → Store → Out α} (h : Post K G R Wx W σ H env Q (o.bind k))
    (step : ∀ a e S W' H' b, Aft W σ H env W' σ H' e → Rel K G W' σ H' e S → R0 W' σ a b → Post K G R Wx W' σ H' e Q (k a e S) → Q0 b H') : Post K G R0 Wx W σ H env Q0 o := by
  cases o with
  | ok x e S => exact fun W2 H2 b a2 r2 q => step x e S W2 H2 b a2 r2 q (Post.after (show Post K G R Wx W σ H env Q (k x e S) from h) a2)
  | exc c e S => exact h
  | stuck => exact h
end
/-- an expression and its meaning; its value stands for itself -/
def DP (G : Glb) (X : Cx) (Wx : WX) (e : Expr) (f : EM) : Prop := ∃ t, PE X e t ∧ ∀ W σ H env S Q, Rel X.K G W σ H env S → Post X.K G RP Wx W σ H env Q (f env S) → t σ H Q
/-- .. its value may be lent -/
def DE (G : Glb) (X : Cx) (Wx : WX) (e : Expr) (f : EM) : Prop := ∃ t, PE X e t ∧ ∀ W σ H env S Q, Rel X.K G W σ H env S → Post X.K G RB Wx W σ H env Q (f env S) → t σ H Q
def DT (G : Glb) (X : Cx) (Wx : WX) (e : Expr) (f : BM) : Prop := ∃ t, PT X e t ∧ ∀ W σ H env S Q, Rel X.K G W σ H env S → Post X.K G RT Wx W σ H env Q (f env S) → t σ H Q
def DW (G : Glb) (X : Cx) (Wx : WX) (e : Expr) (f : BM) : Prop := ∃ t, PW X e t ∧ ∀ W σ H env S Q, Rel X.K G W σ H env S → Post X.K G RT Wx W σ H env Q (f env S) → t σ H Q
def DA (G : Glb) (X : Cx) (Wx : WX) (es : List Expr) (f : AM) : Prop := (∀ e S ds e' S', f e S = .ok ds e' S' → ds.length = es.length) ∧ ∃ t, PA X es t ∧ ∀ W σ H env S Q, Rel X.K G W σ H env S → Post X.K G RL Wx W σ H env Q (f env S) → t σ H Q
def SPost (K : PySem.W.Frag) (G : Glb) (Wx : WX) (W : Wd) (σ : St) (H : Hp) (env : Env) (Dn : Ends) : SOut → Prop
  | .nx e S => ∀ W' σ' H', Aft W σ H env W' σ' H' e → Rel K G W' σ' H' e S → Dn.nx σ' H'
  | .rt d S => ∀ W' H' v, Aft W σ H env W' [] H' [] → Rel K G W' [] H' [] S → Rep W' d v → Dn.rt v H'
  | .bk e S => ∀ W' σ' H', Aft W σ H env W' σ' H' e → Rel K G W' σ' H' e S → Dn.bk σ' H'
  | .ct e S => ∀ W' σ' H', Aft W σ H env W' σ' H' e → Rel K G W' σ' H' e S → Dn.ct σ' H'
  | .exc c e S => ∀ W' σ' H', Aft W σ H env W' σ' H' e → Rel K G W' σ' H' e S → Wx (.ref (G.cls c)) none σ' H'
  | .stuck => False
def DS (G : Glb) (X : Cx) (Wx : WX) (st : Stmt) (g : SM) : Prop := ∃ t, PS X st t ∧ ∀ W σ H env S Dn, Rel X.K G W σ H env S → SPost X.K G Wx W σ H env Dn (g env S) → t Dn σ H
def DSs (G : Glb) (X : Cx) (Wx : WX) (st : List Stmt) (g : SM) : Prop := ∃ t, PSs X st t ∧ ∀ W σ H env S Dn, Rel X.K G W σ H env S → SPost X.K G Wx W σ H env Dn (g env S) → t Dn σ H
/-- what is raised in X may be wished by Wx -/
def Lets (X : Cx) (Wx : WX) : Prop := ∀ σ, PassesAt (L2.CX X.prog X.w) X σ (WE Wx σ)
theorem SPost.after {K : PySem.W.Frag} {G : Glb} {Wx : WX} {W W' : Wd} {σ σ' : St} {H H' : Hp} {env e' : Env} {Dn : Ends} {o : SOut} (h : SPost K G Wx W σ H env Dn o) (a : Aft W σ H env W' σ' H' e') : SPost K G Wx W' σ' H' e' Dn o := by
  cases o with
  | nx e S => exact fun W2 σ2 H2 a2 r2 => h W2 σ2 H2 (a.trans a2) r2
  | rt d S => exact fun W2 H2 v a2 r2 => h W2 H2 v (a.trans a2) r2
  | bk e S => exact fun W2 σ2 H2 a2 r2 => h W2 σ2 H2 (a.trans a2) r2
  | ct e S => exact fun W2 σ2 H2 a2 r2 => h W2 σ2 H2 (a.trans a2) r2
  | exc c e S => exact fun W2 σ2 H2 a2 r2 => h W2 σ2 H2 (a.trans a2) r2
  | stuck => exact h
/-- a statement begins with an expression -/
theorem SPost.head {K : PySem.W.Frag} {G : Glb} {Wx : WX} {W : Wd} {σ : St} {H : Hp} {env : Env} {Dn : Ends} {α β : Type} {R : Wd → St → α → β → Prop} {Q0 : β → Hp → Prop} {o : Out α} {k : α → Env → Store → SOut}
    (h : SPost K G Wx W σ H env Dn (sE o k)) (step : ∀ a e S W' H' b, Aft W σ H env W' σ H' e → Rel K G W' σ H' e S → R W' σ a b → SPost K G Wx W' σ H' e Dn (k a e S) → Q0 b H') : Post K G R Wx W σ H env Q0 o := by
  cases o with
  | ok x e S => exact fun W2 H2 b a2 r2 q => step x e S W2 H2 b a2 r2 q (SPost.after (show SPost K G Wx W σ H env Dn (k x e S) from h) a2)
  | exc c e S => exact fun W2 H2 a2 r2 => (show SPost K G Wx W σ H env Dn (.exc c e S) from h) W2 σ H2 a2 r2
  | stuck => exact h
end DL

set_option Elab.async false
set_option linter.all false
set_option maxRecDepth 100000
set_option maxHeartbeats 4000000
namespace DL
open PySem PySem.Spec PyProof.Rows L2
section
variable {K : PySem.W.Frag} {G : Glb} {W : Wd} {σ : St} {H H' : Hp} {env : Env} {S : Store} {i : Nat} {d : D} {xs ys : List D} {v : V} {a p : Addr}

/-! ## readings of frozen things -/
theorem Rd.up {u : HO} (h : Rd H a u) (k : ∀ o, H a = some o → H' a = some o) : Rd H' a u := by
  rcases h with h | ⟨o, h⟩
  · exact .inl (k _ h)
  · exact .inr ⟨o, k _ h⟩
theorem Rd.ne {u : HO} (h : Rd H a u) : H a ≠ none := by
  rcases h with h | ⟨o, h⟩ <;> rw [h] <;> exact fun e => nomatch e
theorem ZOk.up {g : Glb} {z : ZO} (h : ZOk g H a z) (k : ∀ o, H a = some o → H' a = some o) : ZOk g H' a z := by
  cases z <;> exact k _ h
theorem ZOk.ne {g : Glb} {z : ZO} (h : ZOk g H a z) : H a ≠ none := by
  cases z <;> (have h : H a = _ := h; rw [h]; exact fun e => nomatch e)
theorem SqL.static (h : SqL K (fun _ => none) a vs) : SqL K H a vs := by
  rcases h with (h | ⟨o, h⟩) | h
  · cases h
  · cases h
  · exact .inr h
theorem Rel.tup (r : Rel K G W σ H env S) (h : Rep W (.tup xs) v) : ∃ a vs, v = .ref a ∧ H a = some (.tup vs) ∧ Reps W xs vs := by
  obtain ⟨a, vs, e, z, q⟩ := h
  exact ⟨a, vs, e, (r.fz a _ z).1, q⟩
theorem Rel.lst (r : Rel K G W σ H env S) (h : Rep W (.lst xs) v) : ∃ a vs, v = .ref a ∧ H a = some (.lst vs) ∧ Reps W xs vs := by
  obtain ⟨a, vs, e, z, q⟩ := h
  exact ⟨a, vs, e, (r.fz a _ z).1, q⟩
theorem Rel.scr (r : Rel K G W σ H env S) (h : Rep W (.scr xs) v) : ∃ a vs, v = .ref a ∧ SqL K H a vs ∧ Reps W xs vs := by
  obtain ⟨a, vs, e, z, q⟩ := h
  rcases r.sc a vs z with z | ⟨o, z⟩
  · exact ⟨a, vs, e, SqL.static z, q⟩
  · exact ⟨a, vs, e, .inl (.inr ⟨o, z⟩), q⟩
/-- what look says of a list is so -/
theorem Rel.lookL (r : Rel K G W σ H env S) (h : RepB W σ d v) (e : look env S d = .lst xs) : ∃ a vs, v = .ref a ∧ H a = some (.lst vs) ∧ Reps W xs vs := by
  cases d with
  | loc i =>
    have h : σ[i]? = some (some v) := h
    dsimp only [look] at e
    split at e
    · rename_i ys hy
      cases e
      obtain ⟨a, vs, h1, h2, h3, h4, h5⟩ := r.ow i _ hy
      rw [h] at h1; cases h1
      exact ⟨a, vs, rfl, h2, h3⟩
    · cases e
  | ref n =>
    obtain ⟨a, rfl, ha⟩ := h
    dsimp only [look] at e
    split at e
    · rename_i ys hy
      cases e
      obtain ⟨a', h1, vs, h2, h3⟩ := r.st n _ hy
      rw [ha] at h1; cases h1
      exact ⟨a, vs, rfl, h2, h3⟩
    · cases e
  | lst ys => cases e; exact r.lst h
  | _ => cases e
/-- .. and of anything else it is the thing itself -/
theorem Rel.lookV (r : Rel K G W σ H env S) (h : RepB W σ d v) {x : D} (e : look env S d = x) (hl : ∀ ys, x ≠ .lst ys) (hc : ∀ i, x ≠ .loc i) : Rep W x v := by
  cases d with
  | loc i =>
    dsimp only [look] at e
    split at e
    · exact absurd e.symm (hl _)
    · exact absurd e.symm (hc _)
  | ref n =>
    dsimp only [look] at e
    split at e
    · exact absurd e.symm (hl _)
    · cases e; exact h
  | lst ys => exact absurd e.symm (hl _)
  | _ => cases e; exact h
theorem Rel.lookT (r : Rel K G W σ H env S) (h : RepB W σ d v) (e : look env S d = .tup xs) : ∃ a vs, v = .ref a ∧ H a = some (.tup vs) ∧ Reps W xs vs :=
  r.tup (r.lookV h e (fun _ q => nomatch q) fun _ q => nomatch q)
theorem Rel.lookC (r : Rel K G W σ H env S) (h : RepB W σ d v) (e : look env S d = .scr xs) : ∃ a vs, v = .ref a ∧ SqL K H a vs ∧ Reps W xs vs :=
  r.scr (r.lookV h e (fun _ q => nomatch q) fun _ q => nomatch q)
theorem Rel.lookI (r : Rel K G W σ H env S) (h : RepB W σ d v) {n : Int} (e : look env S d = .int n) : v = .int n := r.lookV h e (fun _ q => nomatch q) fun _ q => nomatch q
theorem Rel.lookBl (r : Rel K G W σ H env S) (h : RepB W σ d v) {n : Bool} (e : look env S d = .bl n) : v = .bl n := r.lookV h e (fun _ q => nomatch q) fun _ q => nomatch q
theorem Rel.lookN (r : Rel K G W σ H env S) (h : RepB W σ d v) (e : look env S d = .non) : v = .non := r.lookV h e (fun _ q => nomatch q) fun _ q => nomatch q
theorem Rel.lookS (r : Rel K G W σ H env S) (h : RepB W σ d v) {s : List Nat} (e : look env S d = .str s) : v = .str ⟨s.toArray⟩ := r.lookV h e (fun _ q => nomatch q) fun _ q => nomatch q

/-! ## the state changed -/
theorem Rel.same (r : Rel K G W σ H env S) (k : ∀ b o, H b = some o → H' b = some o) : Rel K G W σ H' env S where
  g := r.g
  len := r.len
  fz := fun a z e => ⟨(r.fz a z e).1.up (k a), (r.fz a z e).2⟩
  sc := fun a vs e => (r.sc a vs e).imp id fun ⟨o, h⟩ => ⟨o, k _ _ h⟩
  sl := r.sl
  st := fun n o e => by
    obtain ⟨a, h1, h2⟩ := r.st n o e
    refine ⟨a, h1, ?_⟩
    cases o with
    | lst ds => obtain ⟨vs, h3, h4⟩ := h2; exact ⟨vs, k _ _ h3, h4⟩
    | ins c fs => obtain ⟨dx, vfs, h3, h4⟩ := h2; exact ⟨dx, vfs, k _ _ h3, h4⟩
  inj := r.inj
  va := r.va
  ow := fun i xs e => by
    obtain ⟨a, vs, h1, h2, h3⟩ := r.ow i xs e
    exact ⟨a, vs, h1, k _ _ h2, h3⟩
  sep := r.sep
theorem same_upd {o : HO} (h : H p = none) : ∀ b u, H b = some u → upd H p o b = some u := fun b u e => by rw [upd_ne (ne_of_none e h)]; exact e
def Wd.addZ (W : Wd) (p : Addr) (z : ZO) : Wd := { W with Z := fun b => if b = p then some z else W.Z b }
theorem Wd.addZ_same (W : Wd) (p : Addr) (z : ZO) : (W.addZ p z).Z p = some z := if_pos rfl
theorem Wd.addZ_ne (W : Wd) {p b : Addr} (z : ZO) (h : b ≠ p) : (W.addZ p z).Z b = W.Z b := if_neg h
theorem Le.addZ {z : ZO} (h : W.Z p = none) : Le W (W.addZ p z) := by
  refine ⟨fun a x e => ?_, rfl, ⟨[], by simp [Wd.addZ]⟩, rfl⟩
  rw [Wd.addZ_ne W z (fun q => by rw [q, h] at e; cases e)]; exact e
theorem ObR.mono {W' : Wd} {o : Ob} (l : Le W W') (h : ObR W H a o) : ObR W' H a o := by
  cases o with
  | lst ds => obtain ⟨vs, h1, h2⟩ := h; exact ⟨vs, h1, h2.mono l⟩
  | ins c fs => obtain ⟨dx, vfs, h1, h2⟩ := h; exact ⟨dx, vfs, by rw [l.g]; exact h1, h2.mono l⟩
theorem Rel.addZ {z : ZO} (r : Rel K G W σ H env S) (hz : W.Z p = none) (h : ZOk W.g H p z) (hr : p ∉ W.ρ) (ho : ¬ Owned env σ p) : Rel K G (W.addZ p z) σ H env S where
  g := r.g
  len := r.len
  fz := fun a x e => by
    by_cases q : a = p
    · subst q
      rw [Wd.addZ_same] at e; cases e
      exact ⟨h, hr⟩
    · rw [Wd.addZ_ne W z q] at e
      exact r.fz a x e
  sc := r.sc
  sl := r.sl
  st := fun n o e => by
    obtain ⟨a, h1, h2⟩ := r.st n o e
    exact ⟨a, h1, h2.mono (Le.addZ hz)⟩
  inj := r.inj
  va := fun i d e => by
    obtain ⟨v, h1, h2⟩ := r.va i d e
    exact ⟨v, h1, h2.mono (Le.addZ hz)⟩
  ow := fun i xs e => by
    obtain ⟨a, vs, h1, h2, h3, h4, h5⟩ := r.ow i xs e
    refine ⟨a, vs, h1, h2, h3.mono (Le.addZ hz), ?_, h5⟩
    rw [Wd.addZ_ne W z (fun q => ho ⟨i, xs, e, by rw [← q]; exact h1⟩)]
    exact h4
  sep := r.sep
theorem Rel.zfree (r : Rel K G W σ H env S) (h : H p = none) : W.Z p = none := by
  cases e : W.Z p with
  | none => rfl
  | some z => exact absurd h (r.fz p z e).1.ne
theorem Rel.ρfree (r : Rel K G W σ H env S) (h : H p = none) : p ∉ W.ρ := fun m => by
  obtain ⟨n, hn⟩ := List.getElem?_of_mem m
  have hl : n < S.length := by rw [← r.sl]; exact (List.getElem?_eq_some_iff.mp hn).1
  obtain ⟨a, h1, h2⟩ := r.st n _ (List.getElem?_eq_getElem hl)
  rw [hn] at h1; cases h1
  cases q : S[n] with
  | lst ds => rw [q] at h2; obtain ⟨vs, h3, _⟩ := h2; rw [h] at h3; cases h3
  | ins c fs => rw [q] at h2; obtain ⟨dx, vfs, h3, _⟩ := h2; rw [h] at h3; cases h3
theorem Rel.ofree (r : Rel K G W σ H env S) (h : H p = none) : ¬ Owned env σ p := fun ⟨i, xs, e, q⟩ => by
  obtain ⟨a, vs, h1, h2, _⟩ := r.ow i xs e
  rw [q] at h1; cases h1
  rw [h] at h2; cases h2
/-- a new object, standing still from its start -/
theorem Rel.newZ {o : HO} {z : ZO} (r : Rel K G W σ H env S) (h : H p = none) (hz : ZOk W.g (upd H p o) p z) : Rel K G (W.addZ p z) σ (upd H p o) env S :=
  (r.same (same_upd h)).addZ (r.zfree h) hz (r.ρfree h) (r.ofree h)
theorem Aft.newZ {o : HO} {z : ZO} (r : Rel K G W σ H env S) (h : H p = none) : Aft W σ H env (W.addZ p z) σ (upd H p o) env where
  le := Le.addZ (r.zfree h)
  keep := fun b u e _ _ => same_upd h b u e
  tr := fun b q e => by
    by_cases hb : b = p
    · subst hb; exact q h
    · rw [upd_ne hb] at e; exact q e
  nw := fun b q => .inl q
  zs := fun b q => by
    by_cases hb : b = p
    · subst hb; exact .inr (.inl h)
    · rw [Wd.addZ_ne W z hb] at q; exact .inl q
  ow := fun b q => .inl q
theorem Rep.tupAt {vs : List V} (h : W.Z p = some (.tup vs)) (q : Reps W xs vs) : Rep W (.tup xs) (.ref p) := ⟨p, vs, rfl, h, q⟩
theorem Rep.lstAt {vs : List V} (h : W.Z p = some (.lst vs)) (q : Reps W xs vs) : Rep W (.lst xs) (.ref p) := ⟨p, vs, rfl, h, q⟩
/-- a new object alone -/
theorem Aft.same (k : ∀ b o, H b = some o → H' b = some o) (t : ∀ b, H b ≠ none → H' b ≠ none) : Aft W σ H env W σ H' env :=
  ⟨.refl W, fun b o h _ _ => k b o h, t, fun b h => .inl h, fun b h => .inl h, fun b h => .inl h⟩
theorem upd_tr {o : HO} : ∀ b, H b ≠ none → upd H p o b ≠ none := fun b q e => by
  by_cases hb : b = p
  · subst hb; rw [upd_same] at e; cases e
  · rw [upd_ne hb] at e; exact q e
theorem Aft.new {o : HO} (h : H p = none) : Aft W σ H env W σ (upd H p o) env := .same (same_upd h) upd_tr

/-! ## slots -/
theorem get_set {α : Type} {l : List α} {i j : Nat} {x y : α} (h : (l.set i x)[j]? = some y) : (i = j ∧ y = x) ∨ (i ≠ j ∧ l[j]? = some y) := by
  by_cases e : i = j
  · subst e
    rw [List.getElem?_set] at h
    simp only [if_true] at h
    split at h
    · exact .inl ⟨rfl, (Option.some.inj h).symm⟩
    · cases h
  · rw [List.getElem?_set_ne e] at h
    exact .inr ⟨e, h⟩
theorem Rel.setNon (r : Rel K G W σ H env S) (i : Nat) : Rel K G W σ H (env.set i .non) S where
  g := r.g
  len := by rw [List.length_set]; exact r.len
  fz := r.fz
  sc := r.sc
  sl := r.sl
  st := r.st
  inj := r.inj
  va := fun j d e => by
    rcases get_set e with ⟨_, q⟩ | ⟨_, q⟩
    · cases q
    · exact r.va j d q
  ow := fun j xs e => by
    rcases get_set e with ⟨_, q⟩ | ⟨_, q⟩
    · cases q
    · exact r.ow j xs q
  sep := fun j k xs ys a e1 e2 => by
    rcases get_set e1 with ⟨_, q⟩ | ⟨_, q1⟩
    · cases q
    · rcases get_set e2 with ⟨_, q⟩ | ⟨_, q2⟩
      · cases q
      · exact r.sep j k xs ys a q1 q2
/-- a slot whose meaning is told: the value stands there -/
theorem Rel.setVal (r : Rel K G W σ H env S) (hv : σ[i]? = some (some v)) (q : Rep W d v) : Rel K G W σ H (env.set i (.val d)) S where
  g := r.g
  len := by rw [List.length_set]; exact r.len
  fz := r.fz
  sc := r.sc
  sl := r.sl
  st := r.st
  inj := r.inj
  va := fun j x e => by
    rcases get_set e with ⟨h, z⟩ | ⟨_, z⟩
    · cases z; subst h; exact ⟨v, hv, q⟩
    · exact r.va j x z
  ow := fun j xs e => by
    rcases get_set e with ⟨_, z⟩ | ⟨_, z⟩
    · cases z
    · exact r.ow j xs z
  sep := fun j k xs ys a e1 e2 => by
    rcases get_set e1 with ⟨_, z⟩ | ⟨_, z1⟩
    · cases z
    · rcases get_set e2 with ⟨_, z⟩ | ⟨_, z2⟩
      · cases z
      · exact r.sep j k xs ys a z1 z2
theorem owned_set_val {x : D} (h : Owned (env.set i (.val x)) σ a) : Owned env σ a := by
  obtain ⟨j, xs, e, q⟩ := h
  rcases get_set e with ⟨_, z⟩ | ⟨_, z⟩
  · cases z
  · exact ⟨j, xs, z, q⟩
/-- a name is stored -/
theorem Rel.store (r : Rel K G W σ H env S) (q : Rep W d v) (i : Nat) : Rel K G W (σ.set i (some v)) H (env.set i (.val d)) S where
  g := r.g
  len := by rw [List.length_set, List.length_set]; exact r.len
  fz := r.fz
  sc := r.sc
  sl := r.sl
  st := r.st
  inj := r.inj
  va := fun j x e => by
    have hj : j < env.length := by
      have := (List.getElem?_eq_some_iff.mp e).1
      rwa [List.length_set] at this
    rcases get_set e with ⟨h, z⟩ | ⟨h, z⟩
    · cases z; subst h
      exact ⟨v, by rw [List.getElem?_set_self (by rw [← r.len]; exact hj)], q⟩
    · rw [List.getElem?_set_ne h]; exact r.va j x z
  ow := fun j xs e => by
    rcases get_set e with ⟨_, z⟩ | ⟨h, z⟩
    · cases z
    · rw [List.getElem?_set_ne h]; exact r.ow j xs z
  sep := fun j k xs ys a e1 e2 => by
    rcases get_set e1 with ⟨_, z⟩ | ⟨h1, z1⟩
    · cases z
    · rcases get_set e2 with ⟨_, z⟩ | ⟨h2, z2⟩
      · cases z
      · rw [List.getElem?_set_ne h1, List.getElem?_set_ne h2]
        exact r.sep j k xs ys a z1 z2
theorem owned_store {x : D} {o : Option V} (h : Owned (env.set i (.val x)) (σ.set i o) a) : Owned env σ a := by
  obtain ⟨j, xs, e, q⟩ := h
  rcases get_set e with ⟨_, z⟩ | ⟨h, z⟩
  · cases z
  · rw [List.getElem?_set_ne h] at q
    exact ⟨j, xs, z, q⟩
theorem Aft.store {o : Option V} {x : D} : Aft W σ H env W (σ.set i o) H (env.set i (.val x)) :=
  ⟨.refl W, fun b o h _ _ => h, fun b h => h, fun b h => .inl h, fun b h => .inl h, fun b h => .inl (owned_store h)⟩
/-- a name holds a list of its own -/
theorem Rel.storeOwn {vs : List V} (r : Rel K G W σ H env S) (h1 : H a = some (.lst vs)) (h2 : Reps W xs vs) (h3 : W.Z a = none) (h4 : a ∉ W.ρ) (h5 : ¬ Owned env σ a) (i : Nat) : Rel K G W (σ.set i (some (.ref a))) H (env.set i (.own xs)) S where
  g := r.g
  len := by rw [List.length_set, List.length_set]; exact r.len
  fz := r.fz
  sc := r.sc
  sl := r.sl
  st := r.st
  inj := r.inj
  va := fun j x e => by
    rcases get_set e with ⟨_, z⟩ | ⟨h, z⟩
    · cases z
    · rw [List.getElem?_set_ne h]; exact r.va j x z
  ow := fun j ys e => by
    have hj : j < env.length := by
      have := (List.getElem?_eq_some_iff.mp e).1
      rwa [List.length_set] at this
    rcases get_set e with ⟨h, z⟩ | ⟨h, z⟩
    · cases z; subst h
      exact ⟨a, vs, by rw [List.getElem?_set_self (by rw [← r.len]; exact hj)], h1, h2, h3, h4⟩
    · rw [List.getElem?_set_ne h]; exact r.ow j ys z
  sep := fun j k ys zs b e1 e2 s1 s2 => by
    rcases get_set e1 with ⟨h, z⟩ | ⟨h, z1⟩
    · rcases get_set e2 with ⟨h', z'⟩ | ⟨h', z2⟩
      · rw [← h, ← h']
      · exfalso
        rw [List.getElem?_set_ne h'] at s2
        subst h
        rcases get_set s1 with ⟨_, y⟩ | ⟨y, _⟩
        · cases y; exact h5 ⟨k, zs, z2, s2⟩
        · exact y rfl
    · rw [List.getElem?_set_ne h] at s1
      rcases get_set e2 with ⟨h', z'⟩ | ⟨h', z2⟩
      · exfalso
        subst h'
        rcases get_set s2 with ⟨_, y⟩ | ⟨y, _⟩
        · cases y; exact h5 ⟨j, ys, z1, s1⟩
        · exact y rfl
      · rw [List.getElem?_set_ne h'] at s2
        exact r.sep j k ys zs b z1 z2 s1 s2
theorem owned_own (h : Owned (env.set i (.own xs)) (σ.set i (some (.ref a))) p) : p = a ∨ Owned env σ p := by
  obtain ⟨j, ys, e, q⟩ := h
  rcases get_set e with ⟨h, z⟩ | ⟨h, z⟩
  · subst h
    rcases get_set q with ⟨_, y⟩ | ⟨y, _⟩
    · cases y; exact .inl rfl
    · exact absurd rfl y
  · rw [List.getElem?_set_ne h] at q
    exact .inr ⟨j, ys, z, q⟩
/-- .. and it is changed -/
theorem Rel.mutOwn {vs : List V} (r : Rel K G W σ H env S) (e : env[i]? = some (.own xs)) (hs : σ[i]? = some (some (.ref a))) (q : Reps W ys vs) : Rel K G W σ (upd H a (.lst vs)) (env.set i (.own ys)) S := by
  obtain ⟨a', ws, h1, h2, h3, h4, h5⟩ := r.ow i xs e
  rw [hs] at h1; cases h1
  have out : ∀ b o, b ≠ a → H b = some o → upd H a (.lst vs) b = some o := fun b o hb hq => by rw [upd_ne hb]; exact hq
  refine ⟨r.g, by rw [List.length_set]; exact r.len, fun b z hz => ?_, fun b us hb => ?_, r.sl, fun n o hn => ?_, r.inj, fun j x hj => ?_, fun j zs hj => ?_, fun j k zs us b e1 e2 s1 s2 => ?_⟩
  · have hb : b ≠ a := fun z => by rw [z, h4] at hz; cases hz
    exact ⟨(r.fz b z hz).1.up fun o => out b o hb, (r.fz b z hz).2⟩
  · exact (r.sc b us hb).imp id fun ⟨o, h⟩ => ⟨o, out b _ (fun z => by rw [z, h2] at h; cases h) h⟩
  · obtain ⟨b, k1, k2⟩ := r.st n o hn
    have hb : b ≠ a := fun z => h5 (by rw [← z]; exact List.mem_of_getElem? k1)
    refine ⟨b, k1, ?_⟩
    cases o with
    | lst ds => obtain ⟨us, k3, k4⟩ := k2; exact ⟨us, out _ _ hb k3, k4⟩
    | ins c fs => obtain ⟨dx, vfs, k3, k4⟩ := k2; exact ⟨dx, vfs, out _ _ hb k3, k4⟩
  · rcases get_set hj with ⟨_, z⟩ | ⟨_, z⟩
    · cases z
    · exact r.va j x z
  · rcases get_set hj with ⟨h, z⟩ | ⟨h, z⟩
    · cases z; subst h
      exact ⟨a, vs, hs, upd_same, q, h4, h5⟩
    · obtain ⟨b, us, k1, k2, k3⟩ := r.ow j zs z
      exact ⟨b, us, k1, out _ _ (fun y => h (r.sep i j xs zs a e z hs (by rw [← y]; exact k1))) k2, k3⟩
  · have f : ∀ (j : Nat) (zs : List D), (env.set i (.own ys))[j]? = some (.own zs) → ∃ zs', env[j]? = some (.own zs') := fun j zs hj => by
      rcases get_set hj with ⟨h, _⟩ | ⟨_, z⟩
      · subst h; exact ⟨xs, e⟩
      · exact ⟨zs, z⟩
    obtain ⟨z1, f1⟩ := f j zs e1
    obtain ⟨z2, f2⟩ := f k us e2
    exact r.sep j k z1 z2 b f1 f2 s1 s2
theorem Aft.mutOwn {o : HO} (e : env[i]? = some (.own xs)) (hs : σ[i]? = some (some (.ref a))) : Aft W σ H env W σ (upd H a o) (env.set i (.own ys)) := by
  refine ⟨.refl W, fun b u h _ m => ?_, upd_tr, fun b h => .inl h, fun b h => .inl h, fun b ⟨j, zs, h1, h2⟩ => ?_⟩
  · rw [upd_ne (fun z => m ⟨i, xs, e, by rw [z]; exact hs⟩)]; exact h
  · rcases get_set h1 with ⟨h, _⟩ | ⟨_, z⟩
    · subst h; exact .inl ⟨_, xs, e, h2⟩
    · exact .inl ⟨j, zs, z, h2⟩
/-- a store object is changed -/
theorem Rel.mutSt {n : Nat} {o' : Ob} {u : HO} (r : Rel K G W σ H env S) (hn : W.ρ[n]? = some a) (q : ObR W (upd H a u) a o') : Rel K G W σ (upd H a u) env (S.set n o') := by
  have ha : a ∈ W.ρ := List.mem_of_getElem? hn
  have out : ∀ b o, b ≠ a → H b = some o → upd H a u b = some o := fun b o hb hq => by rw [upd_ne hb]; exact hq
  have hf : ∀ o us, H a ≠ some (.frz o us) := fun o us z => by
    have hl : n < S.length := by rw [← r.sl]; exact (List.getElem?_eq_some_iff.mp hn).1
    obtain ⟨a', k1, k2⟩ := r.st n _ (List.getElem?_eq_getElem hl)
    rw [hn] at k1; cases k1
    cases q : S[n] with
    | lst ds => rw [q] at k2; obtain ⟨vs, h3, _⟩ := k2; rw [z] at h3; cases h3
    | ins c fs => rw [q] at k2; obtain ⟨dx, vfs, h3, _⟩ := k2; rw [z] at h3; cases h3
  refine ⟨r.g, r.len, fun b z hz => ?_, fun b us hb => (r.sc b us hb).imp id fun ⟨o, h⟩ => ⟨o, out b _ (fun z => by rw [z] at h; exact hf _ _ h) h⟩, by rw [List.length_set]; exact r.sl, fun m o hm => ?_, r.inj, r.va, fun j zs hj => ?_, r.sep⟩
  · have hb : b ≠ a := fun y => (r.fz b z hz).2 (by rw [y]; exact ha)
    exact ⟨(r.fz b z hz).1.up fun o => out b o hb, (r.fz b z hz).2⟩
  · rcases get_set hm with ⟨h, z⟩ | ⟨h, z⟩
    · cases z; subst h; exact ⟨a, hn, q⟩
    · obtain ⟨b, k1, k2⟩ := r.st m o z
      have hb : b ≠ a := fun y => by
        subst y
        exact h ((List.getElem?_inj (List.getElem?_eq_some_iff.mp hn).1 r.inj).mp (hn.trans k1.symm))
      refine ⟨b, k1, ?_⟩
      cases o with
      | lst ds => obtain ⟨us, k3, k4⟩ := k2; exact ⟨us, out _ _ hb k3, k4⟩
      | ins c fs => obtain ⟨dx, vfs, k3, k4⟩ := k2; exact ⟨dx, vfs, out _ _ hb k3, k4⟩
  · obtain ⟨b, us, k1, k2, k3, k4, k5⟩ := r.ow j zs hj
    exact ⟨b, us, k1, out _ _ (fun y => k5 (by rw [y]; exact ha)) k2, k3, k4, k5⟩
theorem Aft.mutSt {n : Nat} {u : HO} (hn : W.ρ[n]? = some a) : Aft W σ H env W σ (upd H a u) env := by
  refine ⟨.refl W, fun b v h m _ => ?_, upd_tr, fun b h => .inl h, fun b h => .inl h, fun b h => .inl h⟩
  rw [upd_ne (fun z => m (by rw [z]; exact List.mem_of_getElem? hn))]; exact h
/-- a new store object -/
def Wd.addρ (W : Wd) (p : Addr) : Wd := { W with ρ := W.ρ ++ [p] }
theorem Le.addρ : Le W (W.addρ p) := ⟨fun _ _ h => h, rfl, ⟨[p], rfl⟩, rfl⟩
theorem Rel.addρ {o : Ob} (r : Rel K G W σ H env S) (hz : W.Z p = none) (hr : p ∉ W.ρ) (ho : ¬ Owned env σ p) (q : ObR W H p o) : Rel K G (W.addρ p) σ H env (S ++ [o]) where
  g := r.g
  len := r.len
  fz := fun b z hz' => ⟨(r.fz b z hz').1, fun m => by
    rcases List.mem_append.mp m with y | y
    · exact (r.fz b z hz').2 y
    · have hz' : W.Z b = some z := hz'
      rw [List.mem_singleton.mp y, hz] at hz'; cases hz'⟩
  sc := r.sc
  sl := by simp [Wd.addρ, r.sl]
  st := fun n u e => by
    by_cases h : n < S.length
    · rw [List.getElem?_append_left h] at e
      obtain ⟨b, k1, k2⟩ := r.st n u e
      exact ⟨b, by show (W.ρ ++ [p])[n]? = _; rw [List.getElem?_append_left (by rw [r.sl]; exact h)]; exact k1, k2.mono Le.addρ⟩
    · have hn : n = S.length := by
        have := (List.getElem?_eq_some_iff.mp e).1
        rw [List.length_append, List.length_singleton] at this
        omega
      subst hn
      rw [List.getElem?_append_right (Nat.le_refl _)] at e
      simp at e
      subst e
      exact ⟨p, by show (W.ρ ++ [p])[S.length]? = _; rw [← r.sl]; simp, q.mono Le.addρ⟩
  inj := by
    show (W.ρ ++ [p]).Nodup
    rw [List.nodup_append]
    exact ⟨r.inj, by simp, fun x hx y hy e => by rw [List.mem_singleton.mp hy] at e; subst e; exact hr hx⟩
  va := fun i d e => by
    obtain ⟨v, h1, h2⟩ := r.va i d e
    exact ⟨v, h1, h2.mono Le.addρ⟩
  ow := fun i xs e => by
    obtain ⟨b, vs, h1, h2, h3, h4, h5⟩ := r.ow i xs e
    refine ⟨b, vs, h1, h2, h3.mono Le.addρ, h4, fun m => ?_⟩
    rcases List.mem_append.mp m with y | y
    · exact h5 y
    · exact ho ⟨i, xs, e, by rw [← List.mem_singleton.mp y]; exact h1⟩
  sep := r.sep
end
end DL

set_option Elab.async false
set_option linter.all false
set_option maxRecDepth 100000
set_option maxHeartbeats 4000000
namespace DL
open PySem PySem.Spec PyProof.Rows L2

section
variable {G : Glb} {X : Cx} {Wx : WX} {e a b c : Expr} {es : List Expr} {f g h : EM} {fb gb : BM} {fa : AM} {pos p : Pos}
theorem DP.de (d : DP G X Wx e f) : DE G X Wx e f := by
  obtain ⟨t, ht, q⟩ := d
  refine ⟨t, ht, fun W σ H env S Q r h => q W σ H env S Q r ?_⟩
  cases hf : f env S with
  | ok d e' S' => rw [hf] at h; exact fun W' H' v A r' rv => h W' H' v A r' (Rep.b rv)
  | exc c e' S' => rw [hf] at h; exact h
  | stuck => rw [hf] at h; exact h
/-! ## constants, names -/
theorem dp_of {d : D} {v : V} (t : PE X e (tC v)) (h : ∀ W : Wd, Rep W d v) : DP G X Wx e (dC d) :=
  ⟨_, t, fun W σ H env S Q r k => k W H v .refl r (h W)⟩
theorem dp_int {i j} : DP G X Wx (.Constant (.int i) j pos) (dC (.int i)) := dp_of pe_int fun _ => rfl
theorem dp_bl {i j} : DP G X Wx (.Constant (.bool i) j pos) (dC (.bl i)) := dp_of pe_bl fun _ => rfl
theorem dp_non {j} : DP G X Wx (.Constant .none j pos) (dC .non) := dp_of pe_non fun _ => rfl
theorem dp_str {x j} (s : List Nat) (hx : x = ⟨s.toArray⟩ := by decide +kernel) : DP G X Wx (.Constant (.str x) j pos) (dC (.str s)) := dp_of (v := .str x) pe_str fun _ => by rw [hx]; rfl
/-- a module's name as a value -/
theorem dp_glb {x : Str} {k : Nat} {u : Value} (hg : Gl X x) (hm : X.mg x = some u) (r : RelV (G.glb k) u) (hd : (x == ("__debug__" : Str)) = false := by decide) : DP G X Wx (.Name x pos) (dC (.glb k)) :=
  ⟨_, pe_glob hg hm r hd, fun W σ H env S Q r k => k W H _ .refl r (by show _ = W.g.glb _; rw [r.g])⟩
theorem dp_v (i : Nat) {x : Str} (hN : X.N[i]? = some x := by rfl) (hv : Vis X.env.scope x := by first | exact Or.inl rfl | exact Or.inr (Or.inl rfl) | exact Or.inr (Or.inr rfl)) (hd : (x == ("__debug__" : Str)) = false := by decide)
    (hcd : (x == ("__classdict__" : Str)) = false := by decide) : DP G X Wx (.Name x pos) (dV i) := by
  refine ⟨_, pe_var hN hv hd hcd, fun W σ H env S Q r k => ?_⟩
  dsimp only [dV] at k
  split at k
  · rename_i d hd
    obtain ⟨v, h1, h2⟩ := r.va i d hd
    exact ⟨v, h1, k W H v .refl r h2⟩
  · exact k.elim
theorem de_o (i : Nat) {x : Str} (hN : X.N[i]? = some x := by rfl) (hv : Vis X.env.scope x := by first | exact Or.inl rfl | exact Or.inr (Or.inl rfl) | exact Or.inr (Or.inr rfl)) (hd : (x == ("__debug__" : Str)) = false := by decide)
    (hcd : (x == ("__classdict__" : Str)) = false := by decide) : DE G X Wx (.Name x pos) (dO i) := by
  refine ⟨_, pe_var hN hv hd hcd, fun W σ H env S Q r k => ?_⟩
  dsimp only [dO] at k
  split at k
  · rename_i xs hd
    obtain ⟨a, vs, h1, h2⟩ := r.ow i xs hd
    exact ⟨.ref a, h1, k W H _ .refl r h1⟩
  · exact k.elim
theorem dp_f (i : Nat) {x : Str} (hN : X.N[i]? = some x := by rfl) (hv : Vis X.env.scope x := by first | exact Or.inl rfl | exact Or.inr (Or.inl rfl) | exact Or.inr (Or.inr rfl)) (hd : (x == ("__debug__" : Str)) = false := by decide)
    (hcd : (x == ("__classdict__" : Str)) = false := by decide) : DP G X Wx (.Name x pos) (dF i) := by
  refine ⟨_, pe_var hN hv hd hcd, fun W σ H env S Q r k => ?_⟩
  dsimp only [dF] at k
  split at k
  · rename_i xs hd
    obtain ⟨a, vs, h1, h2, h3, h4, h5⟩ := r.ow i xs hd
    have no : ¬ Owned (env.set i .non) σ a := fun ⟨j, ys, z1, z2⟩ => by
      rcases get_set z1 with ⟨_, y⟩ | ⟨y, z⟩
      · cases y
      · exact y (r.sep i j xs ys a hd z h1 z2)
    have r1 : Rel X.K G (W.addZ a (.lst vs)) σ H (env.set i .non) S := (r.setNon i).addZ h4 h2 h5 no
    have r2 := r1.setVal (d := .lst xs) h1 (.lstAt (Wd.addZ_same W a _) (h3.mono (Le.addZ h4)))
    rw [List.set_set] at r2
    refine ⟨.ref a, h1, k _ H _ ⟨Le.addZ h4, fun b o h _ _ => h, fun b h => h, fun b h => .inl h, fun b h => ?_, fun b h => .inl (owned_set_val h)⟩ r2 (.lstAt (Wd.addZ_same W a _) (h3.mono (Le.addZ h4)))⟩
    by_cases hb : b = a
    · subst hb; exact .inr (.inr ⟨i, xs, hd, h1⟩)
    · rw [Wd.addZ_ne W _ hb] at h; exact .inl h
  · exact k.elim

/-! ## operators -/
/-- an operator of two values and its meaning -/
def OpD (G : Glb) (X : Cx) (f : Value → Value → Sem Value) (k : D → D → Option D) : Prop := ∃ r, OpR X f r ∧ ∀ W σ H env S Q dx dy x y c, Rel X.K G W σ H env S → RepB W σ dx x → RepB W σ dy y → k (look env S dx) (look env S dy) = some c →
  (∀ W' H' v, Aft W σ H env W' σ H' env → Rel X.K G W' σ H' env S → Rep W' c v → Q v H') → r x y H Q
theorem d_two {R : V → V → Hp → Prop} {ta tb : TE} {W : Wd} {σ : St} {H : Hp} {env : Env} {S : Store} {k : D → D → Option D} {Q : VK} (hf : ∀ W σ H env S Q, Rel X.K G W σ H env S → Post X.K G RB Wx W σ H env Q (f env S) → ta σ H Q)
    (hg : ∀ W σ H env S Q, Rel X.K G W σ H env S → Post X.K G RB Wx W σ H env Q (g env S) → tb σ H Q) (r : Rel X.K G W σ H env S) (h : Post X.K G RP Wx W σ H env Q (dB2 f g k env S))
    (fin : ∀ W H env S dx dy x y c, Rel X.K G W σ H env S → RepB W σ dx x → RepB W σ dy y → k (look env S dx) (look env S dy) = some c → (∀ W' H' v, Aft W σ H env W' σ H' env → Rel X.K G W' σ H' env S → Rep W' c v → Q v H') → R x y H) :
    ta σ H fun x H1 => tb σ H1 fun y H2 => R x y H2 := by
  refine hf W σ H env S _ r (Post.seq h fun d1 e1 S1 W1 H1 v1 A1 r1 q1 h1 => ?_)
  refine hg W1 σ H1 e1 S1 _ r1 (Post.seq h1 fun d2 e2 S2 W2 H2 v2 A2 r2 q2 h2 => ?_)
  cases hk : k (look e2 S2 d1) (look e2 S2 d2) with
  | none => rw [hk] at h2; exact h2.elim
  | some c =>
    rw [hk] at h2
    exact fin W2 H2 e2 S2 d1 d2 v1 v2 c r2 (q1.mono A2.le) q2 hk h2
theorem dp_op {op : Operator} {k : D → D → Option D} (o : OpD G X (binaryOp op) k) (ha : DE G X Wx a f) (hb : DE G X Wx b g) : DP G X Wx (.BinOp a op b pos) (dB2 f g k) := by
  obtain ⟨r, ho, hr⟩ := o
  obtain ⟨ta, pa, qa⟩ := ha
  obtain ⟨tb, pb, qb⟩ := hb
  refine ⟨_, pe_op ho pa pb, fun W σ H env S Q r0 h => ?_⟩
  exact d_two (R := fun x y H => r x y H Q) qa qb r0 h fun W H env S dx dy x y c r1 q1 q2 hk hq => hr W σ H env S Q dx dy x y c r1 q1 q2 hk hq
theorem dp_cmp {op : CmpOp} {k : D → D → Option D} (o : OpD G X (compareOp op) k) (ha : DE G X Wx a f) (hb : DE G X Wx b g) (hm : behindInMarks op b = false := by first | exact nobehind _ (by decide) (by decide) | rfl) : DP G X Wx (.Compare a [op] [b] pos) (dB2 f g k) := by
  obtain ⟨r, ho, hr⟩ := o
  obtain ⟨ta, pa, qa⟩ := ha
  obtain ⟨tb, pb, qb⟩ := hb
  refine ⟨_, pe_cmpR ho pa pb hm, fun W σ H env S Q r0 h => ?_⟩
  exact d_two (R := fun x y H => r x y H Q) qa qb r0 h fun W H env S dx dy x y c r1 q1 q2 hk hq => hr W σ H env S Q dx dy x y c r1 q1 q2 hk hq
theorem Post.test {α : Type} {W : Wd} {σ : St} {H : Hp} {env : Env} {Q : Bool → Hp → Prop} {o : Out D} (h : Post X.K G RT Wx W σ H env Q (o.bind fun d e S => match d with | .bl b => .ok b e S | _ => .stuck)) :
    Post X.K G RP Wx W σ H env (fun x H1 => ∃ c, x = .bl c ∧ Q c H1) o := by
  refine Post.seq h fun d e1 S1 W1 H1 v A r q h1 => ?_
  cases d with
  | bl b => exact ⟨b, q, h1 W1 H1 b .refl r rfl⟩
  | _ => exact h1.elim
theorem dt_val (ha : DP G X Wx e f) (he : ∀ whole, isTrue e X.env whole = (do let v ← whole; standAt e.pos; holding [v] (truthy v)) := by intro _; rfl) : DT G X Wx e (dTest f) := by
  obtain ⟨t, pt, q⟩ := ha
  exact ⟨_, pt_val pt he, fun W σ H env S Q r h => q W σ H env S _ r (Post.test (α := D) h)⟩
theorem dt_cmp {op : CmpOp} {k : D → D → Option D} (o : OpD G X (compareOp op) k) (ha : DE G X Wx a f) (hb : DE G X Wx b g) (hm : behindInMarks op b = false := by first | exact nobehind _ (by decide) (by decide) | rfl) : DT G X Wx (.Compare a [op] [b] pos) (dTest (dB2 f g k)) := by
  obtain ⟨r, ho, hr⟩ := o
  obtain ⟨ta, pa, qa⟩ := ha
  obtain ⟨tb, pb, qb⟩ := hb
  refine ⟨_, pt_cmpR ho pa pb hm, fun W σ H env S Q r0 h => ?_⟩
  exact d_two (R := fun x y H => r x y H _) qa qb r0 (Post.test (α := D) h) fun W H env S dx dy x y c r1 q1 q2 hk hq => hr W σ H env S _ dx dy x y c r1 q1 q2 hk hq
/-- one value -/
def UnD (G : Glb) (X : Cx) (f : Value → Sem Value) (k : D → Option D) : Prop := ∃ r, UnR X f r ∧ ∀ W σ H env S Q dx x c, Rel X.K G W σ H env S → RepB W σ dx x → k (look env S dx) = some c →
  (∀ W' H' v, Aft W σ H env W' σ H' env → Rel X.K G W' σ H' env S → Rep W' c v → Q v H') → r x H Q
theorem d_one {R : V → Hp → Prop} {ta : TE} {W : Wd} {σ : St} {H : Hp} {env : Env} {S : Store} {k : D → Option D} {Q : VK} (hf : ∀ W σ H env S Q, Rel X.K G W σ H env S → Post X.K G RB Wx W σ H env Q (f env S) → ta σ H Q)
    (r : Rel X.K G W σ H env S) (h : Post X.K G RP Wx W σ H env Q (dB1 f k env S))
    (fin : ∀ W H env S dx x c, Rel X.K G W σ H env S → RepB W σ dx x → k (look env S dx) = some c → (∀ W' H' v, Aft W σ H env W' σ H' env → Rel X.K G W' σ H' env S → Rep W' c v → Q v H') → R x H) : ta σ H R := by
  refine hf W σ H env S _ r (Post.seq h fun d1 e1 S1 W1 H1 v1 A1 r1 q1 h1 => ?_)
  cases hk : k (look e1 S1 d1) with
  | none => rw [hk] at h1; exact h1.elim
  | some c =>
    rw [hk] at h1
    exact fin W1 H1 e1 S1 d1 v1 c r1 q1 hk h1
theorem dp_un {op : UnaryOp} {k : D → Option D} (o : UnD G X (unaryOp op) k) (ha : DE G X Wx a f) : DP G X Wx (.UnaryOp op a pos) (dB1 f k) := by
  obtain ⟨r, ho, hr⟩ := o
  obtain ⟨ta, pa, qa⟩ := ha
  refine ⟨_, pe_un ho pa, fun W σ H env S Q r0 h => ?_⟩
  exact d_one (R := fun x H => r x H Q) qa r0 h fun W H env S dx x c r1 q1 hk hq => hr W σ H env S Q dx x c r1 q1 hk hq
/-- a call of a built-in of one argument -/
def C1D (G : Glb) (X : Cx) (fn : Value) (k : D → Option D) : Prop := ∃ r, CallR X fn r ∧ ∀ W σ H env S Q dx x c, Rel X.K G W σ H env S → RepB W σ dx x → k (look env S dx) = some c →
  (∀ W' H' v, Aft W σ H env W' σ H' env → Rel X.K G W' σ H' env S → Rep W' c v → Q v H') → r [x] H Q
theorem dp_b1 {x : Str} {id : String} {k : D → Option D} (o : C1D G X (.builtin id) k) (hg : Gl X x) (hm : X.mg x = none) (hv : bootBuiltins x = some (.builtin id)) (ha : DE G X Wx a f) (hn : x ≠ "__name__" := by decide) (hdb : (x == ("__debug__" : Str)) = false := by decide)
    (he : starEach [a] X.env = (false, eval a X.env) :: starEach [] X.env := by rfl) (hpl : (backTo pos (starEach [] X.env)).any (·.1) = false := by rfl) : DP G X Wx (.Call (.Name x p) [a] [] pos) (dB1 f k) := by
  obtain ⟨r, ho, hr⟩ := o
  obtain ⟨ta, pa, qa⟩ := ha
  refine ⟨_, pe_callB ho hg hm hv (pa_cons pa pa_nil he) hn hdb he hpl, fun W σ H env S Q r0 h => ?_⟩
  exact d_one (R := fun x H => r [x] H Q) qa r0 h fun W H env S dx x c r1 q1 hk hq => hr W σ H env S Q dx x c r1 q1 hk hq
theorem dp_t1 {x : Str} {T : String} {k : D → Option D} (o : C1D G X (.type T) k) (hg : Gl X x) (hm : X.mg x = none) (hv : bootBuiltins x = some (.type T)) (ha : DE G X Wx a f) (hn : x ≠ "__name__" := by decide) (hdb : (x == ("__debug__" : Str)) = false := by decide)
    (he : starEach [a] X.env = (false, eval a X.env) :: starEach [] X.env := by rfl) (hpl : (backTo pos (starEach [] X.env)).any (·.1) = false := by rfl) : DP G X Wx (.Call (.Name x p) [a] [] pos) (dB1 f k) := by
  obtain ⟨r, ho, hr⟩ := o
  obtain ⟨ta, pa, qa⟩ := ha
  refine ⟨_, pe_callTy ho hg hm hv (pa_cons pa pa_nil he) hn hdb he hpl, fun W σ H env S Q r0 h => ?_⟩
  exact d_one (R := fun x H => r [x] H Q) qa r0 h fun W H env S dx x c r1 q1 hk hq => hr W σ H env S Q dx x c r1 q1 hk hq
end
end DL

set_option Elab.async false
set_option linter.all false
set_option maxRecDepth 100000
set_option maxHeartbeats 4000000
namespace DL
open PySem PySem.Spec PyProof.Rows L2
theorem big_eq : (sizeLine : Nat) = 16777216 := rfl

/-! ## data -/
mutual
def py : D → PyData
  | .bl b => .bool b
  | .int i => .int i
  | .str s => .str ⟨s.toArray⟩
  | .tup xs => .tuple (pys xs)
  | .lst xs => .list (pys xs)
  | .scr xs => .list (pys xs)
  | _ => .none
def pys : List D → List PyData
  | [] => []
  | x :: xs => py x :: pys xs
end
theorem str_beq (x y : List Nat) : ((⟨x.toArray⟩ : Str) == ⟨y.toArray⟩) = (x == y) := by
  by_cases h : x = y
  · subst h; simp
  · have h2 : (⟨x.toArray⟩ : Str) ≠ ⟨y.toArray⟩ := fun q => by
      injection q with q
      exact h (by simpa using congrArg Array.toList q)
    rw [beq_eq_false_iff_ne.mpr h2, beq_eq_false_iff_ne.mpr h]
mutual
theorem py_eqv : ∀ {n m : Nat} (x y : D), okd n x = true → okd m y = true → PyData.eqv (py x) (py y) = eqv x y
  | _, _, .non, y, _, hy => by cases y <;> first | rfl | (simp [okd] at hy; done) | simp [py, PyData.eqv, eqv]
  | _, _, .bl a, y, _, hy => by cases y <;> first | rfl | (simp [okd] at hy; done) | simp [py, PyData.eqv, eqv]
  | _, _, .int a, y, _, hy => by cases y <;> first | rfl | (simp [okd] at hy; done) | simp [py, PyData.eqv, eqv]
  | _, _, .str a, y, _, hy => by cases y <;> first | rfl | (simp [okd] at hy; done) | simp [py, PyData.eqv, eqv, str_beq]
  | n, m, .tup xs, y, hx, hy => by
    cases n with
    | zero => simp [okd] at hx
    | succ n =>
      cases y <;> first | (simp [okd] at hy; done) | (simp [py, PyData.eqv, eqv]; done) | skip
      rename_i ys
      cases m with
      | zero => simp [okd] at hy
      | succ m =>
        simp only [okd] at hx hy
        simp only [py, PyData.eqv, eqv]
        exact pys_eqv xs ys hx hy
  | n, m, .lst xs, y, hx, hy => by
    cases n with
    | zero => simp [okd] at hx
    | succ n =>
      cases m with
      | zero => cases y <;> first | (simp [okd] at hy; done) | simp [py, PyData.eqv, eqv]
      | succ m =>
        simp only [okd] at hx
        cases y <;> first | (simp [okd] at hy; done) | (simp [py, PyData.eqv, eqv]; done) | (simp only [okd] at hy; simp only [py, PyData.eqv, eqv]; exact pys_eqv xs _ hx hy)
  | n, m, .scr xs, y, hx, hy => by
    cases n with
    | zero => simp [okd] at hx
    | succ n =>
      cases m with
      | zero => cases y <;> first | (simp [okd] at hy; done) | simp [py, PyData.eqv, eqv]
      | succ m =>
        simp only [okd] at hx
        cases y <;> first | (simp [okd] at hy; done) | (simp [py, PyData.eqv, eqv]; done) | (simp only [okd] at hy; simp only [py, PyData.eqv, eqv]; exact pys_eqv xs _ hx hy)
  | _, _, .ref _, _, hx, _ => by simp [okd] at hx
  | _, _, .loc _, _, hx, _ => by simp [okd] at hx
  | _, _, .glb _, _, hx, _ => by simp [okd] at hx
  | _, _, .exc _, _, hx, _ => by simp [okd] at hx
theorem pys_eqv : ∀ {n m : Nat} (xs ys : List D), okds n xs = true → okds m ys = true → PyData.eqvAll (pys xs) (pys ys) = eqvs xs ys
  | _, _, [], [], _, _ => rfl
  | _, _, [], _ :: _, _, _ => rfl
  | _, _, _ :: _, [], _, _ => rfl
  | _, _, x :: xs, y :: ys, hx, hy => by
    simp only [okds, Bool.and_eq_true] at hx hy
    simp only [pys, PyData.eqvAll, eqvs]
    rw [py_eqv x y hx.1 hy.1, pys_eqv xs ys hx.2 hy.2]
end
mutual
theorem py_lay : ∀ {n : Nat} (x : D), okd n x = true → (py x).canLay0 = true ∧ (py x).depth ≤ n
  | _, .non, _ => ⟨rfl, Nat.zero_le _⟩
  | _, .bl _, _ => ⟨rfl, Nat.zero_le _⟩
  | _, .int _, _ => ⟨rfl, Nat.zero_le _⟩
  | _, .str s, h => ⟨by
      simp only [okd] at h
      show PySem.PyData.strOk ⟨s.toArray⟩ = true
      unfold PySem.PyData.strOk
      simpa using h, Nat.zero_le _⟩
  | 0, .tup xs, h => by simp [okd] at h
  | 0, .lst xs, h => by simp [okd] at h
  | 0, .scr xs, h => by simp [okd] at h
  | n + 1, .tup xs, h => by
    simp only [okd] at h
    have q := pys_lay xs h
    exact ⟨q.1, Nat.succ_le_succ q.2⟩
  | n + 1, .lst xs, h => by
    simp only [okd] at h
    have q := pys_lay xs h
    exact ⟨q.1, Nat.succ_le_succ q.2⟩
  | n + 1, .scr xs, h => by
    simp only [okd] at h
    have q := pys_lay xs h
    exact ⟨q.1, Nat.succ_le_succ q.2⟩
  | _, .ref _, h => by simp [okd] at h
  | _, .loc _, h => by simp [okd] at h
  | _, .glb _, h => by simp [okd] at h
  | _, .exc _, h => by simp [okd] at h
theorem pys_lay : ∀ {n : Nat} (xs : List D), okds n xs = true → PyData.canLayAll0 (pys xs) = true ∧ PyData.depthAll (pys xs) ≤ n
  | _, [], _ => ⟨rfl, Nat.zero_le _⟩
  | n, x :: xs, h => by
    simp only [okds, Bool.and_eq_true] at h
    have q := py_lay x h.1
    have z := pys_lay xs h.2
    refine ⟨?_, ?_⟩
    · show (PyData.canLay0 (py x) && PyData.canLayAll0 (pys xs)) = true
      rw [q.1, z.1]; rfl
    · show max (py x).depth (PyData.depthAll (pys xs)) ≤ n
      exact Nat.max_le.mpr ⟨q.2, z.2⟩
end
theorem py_shaped {n : Nat} {x : D} (h : okd n x = true) (hn : n ≤ 64) : SeqAt.shaped (py x) = true := by
  have q := py_lay x h
  unfold SeqAt.shaped
  rw [q.1, decide_eq_true (Nat.le_trans q.2 hn)]; rfl
section
variable {K : PySem.W.Frag} {G : Glb} {W : Wd} {σ : St} {H : Hp} {env : Env} {S : Store} {v : V}
mutual
theorem Rel.dp (r : Rel K G W σ H env S) : ∀ {n : Nat} (x : D) {v : V}, okd n x = true → Rep W x v → Dp K H v (py x)
  | _, .non, _, _, h => by cases (show _ = V.non from h); exact .non
  | _, .bl b, _, _, h => by cases (show _ = V.bl b from h); exact .bl b
  | _, .int i, _, _, h => by cases (show _ = V.int i from h); exact .int i
  | _, .str s, _, _, h => by cases (show _ = V.str ⟨s.toArray⟩ from h); exact .str _
  | 0, .tup xs, _, k, _ => by simp [okd] at k
  | 0, .lst xs, _, k, _ => by simp [okd] at k
  | 0, .scr xs, _, k, _ => by simp [okd] at k
  | n + 1, .tup xs, _, k, h => by
    simp only [okd] at k
    obtain ⟨a, vs, rfl, h1, h2⟩ := r.tup h
    exact .tup (.of h1) (Rel.dps r xs k h2)
  | n + 1, .lst xs, _, k, h => by
    simp only [okd] at k
    obtain ⟨a, vs, rfl, h1, h2⟩ := r.lst h
    exact .lst (.of h1) (Rel.dps r xs k h2)
  | n + 1, .scr xs, _, k, h => by
    simp only [okd] at k
    obtain ⟨a, vs, rfl, h1, h2⟩ := r.scr h
    exact .lst h1 (Rel.dps r xs k h2)
  | _, .ref _, _, k, _ => by simp [okd] at k
  | _, .loc _, _, k, _ => by simp [okd] at k
  | _, .glb _, _, k, _ => by simp [okd] at k
  | _, .exc _, _, k, _ => by simp [okd] at k
theorem Rel.dps (r : Rel K G W σ H env S) : ∀ {n : Nat} (xs : List D) {vs : List V}, okds n xs = true → Reps W xs vs → DpAll K H vs (pys xs)
  | _, [], vs, _, h => by cases (show vs = [] from h); exact .nil
  | n, x :: xs, vs, k, h => by
    simp only [okds, Bool.and_eq_true] at k
    obtain ⟨v, ws, rfl, h1, h2⟩ := h
    exact .cons (Rel.dp r x k.1 h1) (Rel.dps r xs k.2 h2)
end
theorem Rel.dpLook (r : Rel K G W σ H env S) {n : Nat} {d x : D} (h : RepB W σ d v) (e : look env S d = x) (k : okd n x = true) : Dp K H v (py x) := by
  cases x with
  | lst xs =>
    obtain ⟨a, vs, rfl, h1, h2⟩ := r.lookL h e
    cases n with
    | zero => simp [okd] at k
    | succ n => simp only [okd] at k; exact .lst (.of h1) (r.dps xs k h2)
  | loc i => simp [okd] at k
  | _ => exact r.dp _ k (r.lookV h e (fun _ q => nomatch q) fun _ q => nomatch q)
end

section
variable {G : Glb} {X : Cx}
/-- the answer is a value without an object -/
theorem fin0 {W : Wd} {σ : St} {H : Hp} {env : Env} {S : Store} {Q : VK} {c : D} {v : V} (r : Rel X.K G W σ H env S) (hq : ∀ W' H' v, Aft W σ H env W' σ H' env → Rel X.K G W' σ H' env S → Rep W' c v → Q v H') (h : Rep W c v) : Q v H := hq W H v .refl r h
theorem od_eq (hu : X.A.units + 64 < cLine) : OpD G X (compareOp .Eq) opEq := by
  refine ⟨_, op_eqD hu, fun W σ H env S Q dx dy x y c r hx hy hk hq => ?_⟩
  unfold opEq at hk
  split at hk
  · rename_i h
    rw [Bool.and_eq_true] at h
    cases hk
    refine ⟨_, _, r.dpLook hx rfl h.1, r.dpLook hy rfl h.2, py_shaped h.1 (by decide), py_shaped h.2 (by decide), ?_⟩
    rw [py_eqv _ _ h.1 h.2]
    exact fin0 r hq rfl
  · cases hk
theorem od_ne (hu : X.A.units + 64 < cLine) : OpD G X (compareOp .NotEq) opNe := by
  refine ⟨_, op_neD hu, fun W σ H env S Q dx dy x y c r hx hy hk hq => ?_⟩
  unfold opNe at hk
  split at hk
  · rename_i h
    rw [Bool.and_eq_true] at h
    cases hk
    refine ⟨_, _, r.dpLook hx rfl h.1, r.dpLook hy rfl h.2, py_shaped h.1 (by decide), py_shaped h.2 (by decide), ?_⟩
    rw [py_eqv _ _ h.1 h.2]
    exact fin0 r hq rfl
  · cases hk
theorem any_py (x : D) (n m : Nat) (hx : okd n x = true) : ∀ (ys : List D), okds m ys = true → (pys ys).any (fun z => PyData.eqv z (py x)) = anyEq x ys
  | [], _ => rfl
  | y :: ys, h => by
    simp only [okds, Bool.and_eq_true] at h
    simp only [pys, List.any_cons, anyEq]
    rw [py_eqv _ _ h.1 hx, any_py x n m hx ys h.2]
def rInTD (K : PySem.W.Frag) (neg : Bool) : R2 := fun x y H Q => ∃ d ds, Dp K H x d ∧ Dp K H y (.tuple ds) ∧ SeqAt.shaped d = true ∧ SeqAt.shaped (.tuple ds) = true ∧ Q (.bl (if neg then !(ds.any fun z => PyData.eqv z d) else ds.any fun z => PyData.eqv z d)) H
theorem op_inTD (hu : X.A.units + 65 < cLine) : OpR X (compareOp .In) (rInTD X.K false) := by
  intro pins s σ H x y v u Q I rx ry h
  obtain ⟨d, ds, hd, he, sd, se, q⟩ := h
  obtain ⟨as, r1⟩ := Dp.reads I d x v hd rx
  obtain ⟨bs, r2⟩ := Dp.reads I (.tuple ds) y u he ry
  exact SeqAt.in_tuple_reads r2 r1 (SeqAt.canLay_of_shaped se) (SeqAt.canLay_of_shaped sd) (room_in_shaped sd hu) ⟨.bl _, H, I, rfl, q⟩
theorem op_notInTD (hu : X.A.units + 65 < cLine) : OpR X (compareOp .NotIn) (rInTD X.K true) := by
  intro pins s σ H x y v u Q I rx ry h
  obtain ⟨d, ds, hd, he, sd, se, q⟩ := h
  obtain ⟨as, r1⟩ := Dp.reads I d x v hd rx
  obtain ⟨bs, r2⟩ := Dp.reads I (.tuple ds) y u he ry
  exact SeqAt.notIn_tuple_reads r2 r1 (SeqAt.canLay_of_shaped se) (SeqAt.canLay_of_shaped sd) (room_in_shaped sd hu) ⟨.bl _, H, I, rfl, q⟩
theorem od_in (hu : X.A.units + 65 < cLine) : OpD G X (compareOp .In) opIn := by
  refine ⟨_, (op_inTD hu).or (op_inD hu), fun W σ H env S Q dx dy x y c r hx hy hk hq => ?_⟩
  unfold opIn at hk
  split at hk
  · rename_i ys hl
    split at hk
    · rename_i h
      rw [Bool.and_eq_true] at h
      cases hk
      refine .inl ⟨py (look env S dx), pys ys, r.dpLook hx rfl h.1, r.dpLook (n := 10) (x := .tup ys) hy hl (by simp only [okd]; exact h.2), py_shaped h.1 (by decide), py_shaped (x := .tup ys) (n := 10) (by simp only [okd]; exact h.2) (by decide), ?_⟩
      rw [any_py _ _ _ h.1 _ h.2]
      exact fin0 r hq rfl
    · cases hk
  · rename_i ys hl
    split at hk
    · rename_i h
      rw [Bool.and_eq_true] at h
      cases hk
      refine .inr ⟨py (look env S dx), pys ys, r.dpLook hx rfl h.1, r.dpLook (n := 10) (x := .lst ys) hy hl (by simp only [okd]; exact h.2), py_shaped h.1 (by decide), py_shaped (x := .lst ys) (n := 10) (by simp only [okd]; exact h.2) (by decide), ?_⟩
      rw [any_py _ _ _ h.1 _ h.2]
      exact fin0 r hq rfl
    · cases hk
  · cases hk
theorem od_notIn (hu : X.A.units + 65 < cLine) : OpD G X (compareOp .NotIn) opNotIn := by
  refine ⟨_, (op_notInTD hu).or (op_notInD hu), fun W σ H env S Q dx dy x y c r hx hy hk hq => ?_⟩
  unfold opNotIn at hk
  split at hk
  · rename_i ys hl
    split at hk
    · rename_i h
      rw [Bool.and_eq_true] at h
      cases hk
      refine .inl ⟨py (look env S dx), pys ys, r.dpLook hx rfl h.1, r.dpLook (n := 10) (x := .tup ys) hy hl (by simp only [okd]; exact h.2), py_shaped h.1 (by decide), py_shaped (x := .tup ys) (n := 10) (by simp only [okd]; exact h.2) (by decide), ?_⟩
      rw [any_py _ _ _ h.1 _ h.2]
      exact fin0 r hq rfl
    · cases hk
  · rename_i ys hl
    split at hk
    · rename_i h
      rw [Bool.and_eq_true] at h
      cases hk
      refine .inr ⟨py (look env S dx), pys ys, r.dpLook hx rfl h.1, r.dpLook (n := 10) (x := .lst ys) hy hl (by simp only [okd]; exact h.2), py_shaped h.1 (by decide), py_shaped (x := .lst ys) (n := 10) (by simp only [okd]; exact h.2) (by decide), ?_⟩
      rw [any_py _ _ _ h.1 _ h.2]
      exact fin0 r hq rfl
    · cases hk
  · cases hk
theorem Reps.ints {W : Wd} : ∀ {ds : List D} {vs : List V} {ns : List Int}, Reps W ds vs → allInts ds = some ns → vs = ns.map V.int
  | [], vs, ns, r, h => by cases h; exact r
  | d :: ds, vs, ns, r, h => by
    obtain ⟨v, ws, rfl, h1, h2⟩ := r
    cases d with
    | int i =>
      simp only [allInts] at h
      split at h
      · rename_i is hi
        cases h
        cases (show v = V.int i from h1)
        rw [List.map_cons, Reps.ints h2 hi]
      · cases h
    | _ => cases h
theorem lexLt_eq : ∀ a b : List Int, HT.lexLt a b = lexLt a b
  | [], [] => rfl
  | [], _ :: _ => rfl
  | _ :: _, [] => rfl
  | x :: xs, y :: ys => by
    show (if x = y then HT.lexLt xs ys else decide (x < y)) = _
    rw [lexLt_eq xs ys]; rfl
theorem od_lt (hu : X.A.units < cLine) : OpD G X (compareOp .Lt) opLt := by
  refine ⟨_, op_lt.or (op_ltT hu), fun W σ H env S Q dx dy x y c r hx hy hk hq => ?_⟩
  unfold opLt at hk
  split at hk
  · rename_i i j h1 h2
    cases hk
    exact .inl ⟨i, j, r.lookI hx h1, r.lookI hy h2, fin0 r hq rfl⟩
  · rename_i a b h1 h2
    split at hk
    · rename_i ns ms e1 e2
      cases hk
      obtain ⟨p, vs, rfl, k1, k2⟩ := r.lookT hx h1
      obtain ⟨q, ws, rfl, k3, k4⟩ := r.lookT hy h2
      have g1 := k2.ints e1
      have g2 := k4.ints e2
      subst g1 g2
      refine .inr ⟨p, q, ns, ms, rfl, rfl, .of k1, .of k3, ?_⟩
      rw [lexLt_eq]
      exact fin0 r hq rfl
    · cases hk
  · cases hk
theorem od_gt : OpD G X (compareOp .Gt) opGt := by
  refine ⟨_, op_gt, fun W σ H env S Q dx dy x y c r hx hy hk hq => ?_⟩
  unfold opGt at hk
  split at hk
  · rename_i i j h1 h2
    cases hk
    exact ⟨i, j, r.lookI hx h1, r.lookI hy h2, fin0 r hq rfl⟩
  · cases hk
theorem od_le : OpD G X (compareOp .LtE) opLe := by
  refine ⟨_, op_le, fun W σ H env S Q dx dy x y c r hx hy hk hq => ?_⟩
  unfold opLe at hk
  split at hk
  · rename_i i j h1 h2
    cases hk
    exact ⟨i, j, r.lookI hx h1, r.lookI hy h2, fin0 r hq rfl⟩
  · cases hk
theorem od_ge : OpD G X (compareOp .GtE) opGe := by
  refine ⟨_, op_ge, fun W σ H env S Q dx dy x y c r hx hy hk hq => ?_⟩
  unfold opGe at hk
  split at hk
  · rename_i i j h1 h2
    cases hk
    exact ⟨i, j, r.lookI hx h1, r.lookI hy h2, fin0 r hq rfl⟩
  · cases hk
end
end DL

set_option Elab.async false
set_option linter.all false
set_option maxRecDepth 100000
set_option maxHeartbeats 4000000
namespace DL
open PySem PySem.Spec PyProof.Rows L2
section
variable {G : Glb} {X : Cx}
/-- the answer is a new tuple -/
theorem finT {W : Wd} {σ : St} {H : Hp} {env : Env} {S : Store} {Q : VK} {xs : List D} {vs : List V} (r : Rel X.K G W σ H env S) (hq : ∀ W' H' v, Aft W σ H env W' σ H' env → Rel X.K G W' σ H' env S → Rep W' (.tup xs) v → Q v H') (h : Reps W xs vs) : ∀ p, H p = none → Q (.ref p) (upd H p (.tup vs)) := fun p hp =>
  hq _ _ _ (Aft.newZ r hp) (r.newZ (z := .tup vs) hp upd_same) (.tupAt (Wd.addZ_same W p _) (h.mono (Le.addZ (r.zfree hp))))
/-- .. a new list that stands still -/
theorem finL {W : Wd} {σ : St} {H : Hp} {env : Env} {S : Store} {Q : VK} {xs : List D} {vs : List V} (r : Rel X.K G W σ H env S) (hq : ∀ W' H' v, Aft W σ H env W' σ H' env → Rel X.K G W' σ H' env S → Rep W' (.lst xs) v → Q v H') (h : Reps W xs vs) : ∀ p, H p = none → Q (.ref p) (upd H p (.lst vs)) := fun p hp =>
  hq _ _ _ (Aft.newZ r hp) (r.newZ (z := .lst vs) hp upd_same) (.lstAt (Wd.addZ_same W p _) (h.mono (Le.addZ (r.zfree hp))))
theorem Rep.tup_intro {W : Wd} {H : Hp} {a : Addr} {vs : List V} {xs : List D} (h : W.Z a = some (.tup vs)) (q : Reps W xs vs) : Rep W (.tup xs) (.ref a) := ⟨a, vs, rfl, h, q⟩
theorem str_len (s : List Nat) : (⟨s.toArray⟩ : Str).length = s.length := by simp [Str.length]
theorem str_app (a b : List Nat) : ((⟨a.toArray⟩ : Str) ++ ⟨b.toArray⟩) = ⟨(a ++ b).toArray⟩ := by
  show (⟨a.toArray ++ b.toArray⟩ : Str) = _
  simp
theorem Rel.lookTZ {W : Wd} {σ : St} {H : Hp} {env : Env} {S : Store} {d : D} {v : V} {xs : List D} (r : Rel X.K G W σ H env S) (h : RepB W σ d v) (e : look env S d = .tup xs) : ∃ a vs, v = .ref a ∧ H a = some (.tup vs) ∧ Reps W xs vs ∧ Rep W (.tup xs) v := by
  have q := r.lookV h e (fun _ q => nomatch q) fun _ q => nomatch q
  obtain ⟨a, vs, e1, h1, h2⟩ := r.tup q
  exact ⟨a, vs, e1, h1, h2, q⟩
theorem od_add : OpD G X (binaryOp .Add) opAdd := by
  refine ⟨_, op_add.or (op_add_str.or (op_catA.or op_cat)), fun W σ H env S Q dx dy x y c r hx hy hk hq => ?_⟩
  unfold opAdd at hk
  split at hk
  · rename_i i j h1 h2
    cases hk
    exact .inl ⟨i, j, r.lookI hx h1, r.lookI hy h2, fin0 r hq rfl⟩
  · rename_i a b h1 h2
    split at hk
    · rename_i hz
      cases hk
      refine .inr (.inl ⟨_, _, r.lookS hx h1, r.lookS hy h2, by rw [str_len, str_len]; exact hz, ?_⟩)
      rw [str_app]
      exact fin0 r hq rfl
    · cases hk
  · rename_i a b h1 h2
    split at hk
    · rename_i hz
      cases hk
      obtain ⟨p, vs, rfl, k1, k2, k3⟩ := r.lookTZ hx h1
      obtain ⟨q, ws, rfl, k4, k5, k6⟩ := r.lookTZ hy h2
      refine .inr (.inr (.inl ⟨p, q, vs, ws, rfl, rfl, .of k1, .of k4, by rw [← k2.length, ← k5.length]; exact hz, fun e => ?_, fun e1 e2 => ?_, fun e1 e2 => finT r hq (k2.append k5)⟩))
      · have := k2.nil_of.mpr e
        subst this
        exact fin0 r hq k6
      · have := k5.nil_of.mpr e2
        subst this
        rw [List.append_nil] at hq
        exact fin0 r hq k3
    · cases hk
  · rename_i a b h1 h2
    split at hk
    · rename_i hz
      cases hk
      obtain ⟨p, vs, rfl, k1, k2⟩ := r.lookL hx h1
      obtain ⟨q, ws, rfl, k4, k5⟩ := r.lookL hy h2
      exact .inr (.inr (.inr ⟨p, q, vs, ws, rfl, rfl, k1, k4, by rw [← k2.length, ← k5.length]; exact hz, finL r hq (k2.append k5)⟩))
    · cases hk
  · cases hk
theorem od_sub : OpD G X (binaryOp .Sub) opSub := by
  refine ⟨_, op_sub, fun W σ H env S Q dx dy x y c r hx hy hk hq => ?_⟩
  unfold opSub at hk
  split at hk
  · rename_i i j h1 h2
    cases hk
    exact ⟨i, j, r.lookI hx h1, r.lookI hy h2, fin0 r hq rfl⟩
  · cases hk
def CDivG (_ j : Int) : Prop := j ≠ 0 ∧ j.natAbs.log2 < 9000
theorem op_fdivG : OpR X (binaryOp .FloorDiv) (rI CDivG fun i j => .int (i.fdiv j)) := opI fun i j _ _ _ _ _ hc q => floordiv_int hc.1 q (.inl (PyProof.noPylong_of_log2 hc.2))
theorem od_div : OpD G X (binaryOp .FloorDiv) opDiv := by
  refine ⟨_, op_fdivG, fun W σ H env S Q dx dy x y c r hx hy hk hq => ?_⟩
  unfold opDiv at hk
  split at hk
  · rename_i i j h1 h2
    split at hk
    · rename_i h
      cases hk
      unfold divOk at h
      rw [Bool.and_eq_true] at h
      exact ⟨i, j, r.lookI hx h1, r.lookI hy h2, ⟨of_decide_eq_true h.1, of_decide_eq_true h.2⟩, fin0 r hq rfl⟩
    · cases hk
  · cases hk
theorem od_mod : OpD G X (binaryOp .Mod) opMod := by
  refine ⟨_, op_modN, fun W σ H env S Q dx dy x y c r hx hy hk hq => ?_⟩
  unfold opMod at hk
  split at hk
  · rename_i i j h1 h2
    split at hk
    · cases hk
    · rename_i h
      cases hk
      exact ⟨i, j, r.lookI hx h1, r.lookI hy h2, h, fin0 r hq rfl⟩
  · cases hk
theorem od_pow : OpD G X (binaryOp .Pow) opPow := by
  refine ⟨_, op_pow, fun W σ H env S Q dx dy x y c r hx hy hk hq => ?_⟩
  unfold opPow at hk
  split at hk
  · rename_i i j h1 h2
    split at hk
    · rename_i h
      cases hk
      simp only [Bool.and_eq_true, decide_eq_true_eq] at h
      exact ⟨i, j, r.lookI hx h1, r.lookI hy h2, ⟨h.1.1, by have := h.1.2; omega, h.2⟩, fin0 r hq rfl⟩
    · cases hk
  · cases hk
theorem Reps.flat {W : Wd} {xs : List D} {vs : List V} (h : Reps W xs vs) : ∀ n : Nat, Reps W (List.replicate n xs).flatten (List.replicate n vs).flatten
  | 0 => rfl
  | n + 1 => by
    rw [List.replicate_succ, List.replicate_succ, List.flatten_cons, List.flatten_cons]
    exact h.append (Reps.flat h n)
theorem un_negD : UnD G X (unaryOp .USub) opNeg := by
  refine ⟨_, un_neg, fun W σ H env S Q dx x c r hx hk hq => ?_⟩
  unfold opNeg at hk
  split at hk
  · rename_i i h1
    cases hk
    exact ⟨i, r.lookI hx h1, fin0 r hq rfl⟩
  · cases hk
def mayN : D → Bool
  | .non => true | .loc _ => true | .glb _ => true
  | _ => false
theorem Rel.notNon {K : PySem.W.Frag} {W : Wd} {σ : St} {H : Hp} {env : Env} {S : Store} {d c : D} {v : V} (r : Rel K G W σ H env S) (h : RepB W σ d v) (e : look env S d = c) (k : mayN c = false) : v ≠ .non := by
  intro z
  subst z
  cases c with
  | lst xs => obtain ⟨p, vs, q, _⟩ := r.lookL h e; cases q
  | non => cases k
  | loc i => cases k
  | glb i => cases k
  | bl b => have q := r.lookBl h e; cases q
  | int i => have q := r.lookI h e; cases q
  | str s => have q := r.lookS h e; cases q
  | tup xs => obtain ⟨p, vs, q, _⟩ := r.lookT h e; cases q
  | ref n => obtain ⟨p, q, _⟩ := r.lookV h e (fun _ q => nomatch q) (fun _ q => nomatch q); cases q
  | exc n => obtain ⟨p, q, _⟩ := r.lookV h e (fun _ q => nomatch q) (fun _ q => nomatch q); cases q
  | scr xs => obtain ⟨p, vs, q, _⟩ := r.lookC h e; cases q
theorem od_is : OpD G X (compareOp .Is) opIs := by
  refine ⟨_, op_isN.or op_is_bl, fun W σ H env S Q dx dy x y c r hx hy hk hq => ?_⟩
  unfold opIs at hk
  split at hk <;> first
    | (cases hk; done)
    | (rename_i a b h1 h2
       cases hk
       exact .inr ⟨a, b, r.lookBl hx h1, r.lookBl hy h2, by
         have e : decide (a = b) = (a == b) := by rw [Bool.beq_eq_decide_eq]
         rw [e]; exact fin0 r hq rfl⟩)
    | (rename_i h1 h2
       cases hk
       refine .inl ⟨r.lookN hy h2, ?_⟩
       first
         | (cases r.lookN hx h1; exact fin0 r hq rfl)
         | (have e : decide (x = V.non) = false := decide_eq_false (r.notNon hx h1 rfl)
            rw [e]; exact fin0 r hq rfl))
theorem od_isNot : OpD G X (compareOp .IsNot) opIsNot := by
  refine ⟨_, op_notN.or op_isnot_bl, fun W σ H env S Q dx dy x y c r hx hy hk hq => ?_⟩
  unfold opIsNot opIs at hk
  split at hk <;> first
    | (cases hk; done)
    | skip
  rename_i b0 hb0
  cases hk
  split at hb0 <;> first
    | (cases hb0; done)
    | (rename_i a b h1 h2
       cases hb0
       exact .inr ⟨a, b, r.lookBl hx h1, r.lookBl hy h2, by
         have e : decide (a = b) = (a == b) := by rw [Bool.beq_eq_decide_eq]
         rw [e]; exact fin0 r hq rfl⟩)
    | (rename_i h1 h2
       cases hb0
       refine .inl ⟨r.lookN hy h2, ?_⟩
       first
         | (cases r.lookN hx h1; exact fin0 r hq rfl)
         | (have e : decide (x = V.non) = false := decide_eq_false (r.notNon hx h1 rfl)
            rw [e]; exact fin0 r hq rfl))

/-! ## built-ins -/
theorem cd_len : C1D G X (.builtin "len") opLen := by
  refine ⟨_, call_len_seq.or call_len_str, fun W σ H env S Q dx x c r hx hk hq => ?_⟩
  unfold opLen at hk
  split at hk
  · rename_i a h1
    cases hk
    obtain ⟨p, vs, rfl, k1, k2⟩ := r.lookT hx h1
    exact .inl ⟨p, vs, rfl, .inr (.of k1), by rw [← k2.length]; exact fin0 r hq rfl⟩
  · rename_i a h1
    cases hk
    obtain ⟨p, vs, rfl, k1, k2⟩ := r.lookL hx h1
    exact .inl ⟨p, vs, rfl, .inl (.of k1), by rw [← k2.length]; exact fin0 r hq rfl⟩
  · rename_i a h1
    cases hk
    obtain ⟨p, vs, rfl, k1, k2⟩ := r.lookC hx h1
    exact .inl ⟨p, vs, rfl, .inl k1, by rw [← k2.length]; exact fin0 r hq rfl⟩
  · rename_i s h1
    split at hk
    · rename_i hz
      cases hk
      refine .inr ⟨_, by rw [r.lookS hx h1], by rw [str_len]; exact hz, ?_⟩
      rw [str_len]
      exact fin0 r hq rfl
    · cases hk
  · cases hk
theorem cd_abs : C1D G X (.builtin "abs") opAbs := by
  refine ⟨_, call_abs, fun W σ H env S Q dx x c r hx hk hq => ?_⟩
  unfold opAbs at hk
  split at hk
  · rename_i i h1
    cases hk
    exact ⟨i, by rw [r.lookI hx h1], fin0 r hq rfl⟩
  · cases hk
theorem cd_int : C1D G X (.type "int") opInt := by
  refine ⟨_, call_int1, fun W σ H env S Q dx x c r hx hk hq => ?_⟩
  unfold opInt at hk
  split at hk
  · rename_i i h1
    cases hk
    exact .inl ⟨i, by rw [r.lookI hx h1], fin0 r hq rfl⟩
  · rename_i i h1
    cases hk
    exact .inr ⟨i, by rw [r.lookBl hx h1], fin0 r hq rfl⟩
  · cases hk
theorem cd_tuple : C1D G X (.type "tuple") opTuple := by
  refine ⟨_, call_tuple_of, fun W σ H env S Q dx x c r hx hk hq => ?_⟩
  unfold opTuple at hk
  split at hk
  · rename_i a h1
    cases hk
    obtain ⟨p, vs, rfl, k1, k2, k3⟩ := r.lookTZ hx h1
    exact ⟨p, vs, rfl, .inr ⟨.of k1, fin0 r hq k3⟩⟩
  · rename_i a h1
    cases hk
    obtain ⟨p, vs, rfl, k1, k2⟩ := r.lookL hx h1
    exact ⟨p, vs, rfl, .inl ⟨.of k1, finT r hq k2⟩⟩
  · cases hk
theorem cd_list : C1D G X (.type "list") opList := by
  refine ⟨_, call_list_of, fun W σ H env S Q dx x c r hx hk hq => ?_⟩
  unfold opList at hk
  split at hk
  · rename_i a h1
    cases hk
    obtain ⟨p, vs, rfl, k1, k2⟩ := r.lookT hx h1
    exact ⟨p, vs, rfl, .inr (.of k1), finL r hq k2⟩
  · rename_i a h1
    cases hk
    obtain ⟨p, vs, rfl, k1, k2⟩ := r.lookL hx h1
    exact ⟨p, vs, rfl, .inl (.of k1), finL r hq k2⟩
  · rename_i a h1
    cases hk
    obtain ⟨p, vs, rfl, k1, k2⟩ := r.lookC hx h1
    exact ⟨p, vs, rfl, .inl k1, finL r hq k2⟩
  · cases hk
theorem cd_sum (hc : X.calm = true) : C1D G X (.builtin "sum") opSum := by
  refine ⟨_, cr_sum hc, fun W σ H env S Q dx x c r hx hk hq => ?_⟩
  unfold opSum at hk
  split at hk
  · rename_i a h1
    split at hk
    · rename_i ns e
      cases hk
      obtain ⟨p, vs, rfl, k1, k2⟩ := r.lookL hx h1
      have g := k2.ints e
      subst g
      exact ⟨p, ns, rfl, .of k1, fin0 r hq rfl⟩
    · cases hk
  · cases hk
theorem Reps.bls {W : Wd} : ∀ {ds : List D} {vs : List V} {ns : List Bool}, Reps W ds vs → allBls ds = some ns → vs = ns.map V.bl
  | [], vs, ns, r, h => by cases h; exact r
  | d :: ds, vs, ns, r, h => by
    obtain ⟨v, ws, rfl, h1, h2⟩ := r
    cases d with
    | bl i =>
      simp only [allBls] at h
      split at h
      · rename_i is hi
        cases h
        cases (show v = V.bl i from h1)
        rw [List.map_cons, Reps.bls h2 hi]
      · cases h
    | _ => cases h
theorem cd_all (hc : X.calm = true) : C1D G X (.builtin "all") opAll := by
  refine ⟨_, cr_all hc, fun W σ H env S Q dx x c r hx hk hq => ?_⟩
  unfold opAll at hk
  split at hk
  · rename_i a h1
    split at hk
    · rename_i ns e
      cases hk
      obtain ⟨p, vs, rfl, k1, k2⟩ := r.lookL hx h1
      have g := k2.bls e
      subst g
      exact ⟨p, ns, rfl, .of k1, fin0 r hq rfl⟩
    · cases hk
  · cases hk
/-! any of ints, in a list or a tuple -/
def rAnyI (K : PySem.W.Frag) : List V → Hp → VK → Prop := fun vs H Q => ∃ (a : Addr) (ns : List Int), vs = [V.ref a] ∧ (SqL K H a (ns.map V.int) ∨ SqT K H a (ns.map V.int)) ∧ Q (.bl (ns.any (· != 0))) H
theorem truth_ints {prog : Program} {w : World} {A : Around} {ns : List Int} {its : List Value} (e : Vals (ns.map V.int) its) :
    TruthOf prog w A (fun i v => its.toArray[i]? = some v) (fun i => (ns.map (· != 0)).getD i false) := fun i v s Q E hv hq => by
  have hv' : its[i]? = some v := by simpa using hv
  cases hn : ns[i]? with
  | none =>
    have h1 := e.length
    rw [List.length_map] at h1
    have h2 := List.getElem?_eq_none_iff.mp hn
    have h3 := (List.getElem?_eq_some_iff.mp hv').1
    omega
  | some n =>
    obtain ⟨u, hu, ru⟩ := e.get (i := i) (x := V.int n) (by rw [List.getElem?_map, hn]; rfl)
    rw [hv'] at hu; cases hu
    obtain ⟨t, rfl⟩ := ru
    have hg : (ns.map (· != 0)).getD i false = (n != 0) := by rw [List.getD_eq_getElem?_getD, List.getElem?_map, hn]; rfl
    have hq' : Q ((ns.map (· != 0)).getD i false) s := hq
    rw [hg] at hq'
    exact PyProof.Rows.truthy_int hq'
theorem cr_anyI (hc : X.calm = true) : CallR X (.builtin "any") (rAnyI X.K) := by
  intro pins s σ H vs us Q I r h
  obtain ⟨a, ns, rfl, hs, q⟩ := h
  rw [Vals.ref1 r]
  have an : ∀ its : List Value, Vals (ns.map V.int) its → (List.range its.toArray.size).any (fun i => (ns.map (· != 0)).getD i false) = ns.any (· != 0) := fun its rv => by
    have e : its.toArray.size = (ns.map (· != 0)).length := by rw [List.size_toArray, ← rv.length, List.length_map, List.length_map]
    rw [e, L2.any_range, List.any_map]; rfl
  rcases hs with hs | hs
  · obtain ⟨its, rv, hl, _⟩ := I.list hs
    refine call_any_walk (iter_any hl.isList fun s₂ e2 st hne => ?_)
    subst e2
    refine ⟨_, _, _, _, _, _, _, rfl, Walks.list (A := X.A.in1) (I.ok.hd hc) _ a hne its.toArray, st, truth_ints rv, fun h' tk hk => ?_⟩
    refine ⟨.bl _, H, I.kept fun b o eo => hk b o (fun hmem => ?_) (Heap.get?_push_of_some _ eo), ?_, q⟩
    · rcases List.mem_cons.mp hmem with e1 | hmem
      · exact absurd (e1 ▸ Heap.lt_size eo) (Nat.lt_irrefl _)
      · cases hmem
    · show Value.bool _ = Value.bool _
      rw [an its rv]
  · obtain ⟨its, rv, hl, _⟩ := I.tuple hs
    have hlt : a < s.heap.objs.size := by obtain ⟨_, e, _⟩ := hl; exact Heap.lt_size e
    refine call_any_walk (wpAny_pyIter_tuple (show s.heap.IsTuple a its.toArray from hl) ?_)
    refine ⟨_, _, _, _, _, _, _, rfl, Walks.tuple (A := X.A.in1) (I.ok.hd hc) _ a (Nat.ne_of_lt hlt) its.toArray, ⟨⟨_, Heap.get?_push_size _ rfl, rfl, rfl⟩, ?_⟩, truth_ints rv, fun h' tk hk => ?_⟩
    · obtain ⟨o, e, c, n, d⟩ := hl
      exact ⟨o, Heap.get?_push_of_some _ e, c, n, d⟩
    · refine ⟨.bl _, H, I.kept fun b o eo => hk b o (fun hmem => ?_) (Heap.get?_push_of_some _ eo), ?_, q⟩
      · rcases List.mem_cons.mp hmem with e1 | hmem
        · exact absurd (e1 ▸ Heap.lt_size eo) (Nat.lt_irrefl _)
        · cases hmem
      · show Value.bool _ = Value.bool _
        rw [an its rv]
theorem cd_any (hc : X.calm = true) : C1D G X (.builtin "any") opAny := by
  refine ⟨_, cr_anyI hc, fun W σ H env S Q dx x c r hx hk hq => ?_⟩
  unfold opAny at hk
  split at hk
  · rename_i a h1
    split at hk
    · rename_i ns e
      cases hk
      obtain ⟨p, vs, rfl, k1, k2⟩ := r.lookL hx h1
      have g := k2.ints e
      subst g
      exact ⟨p, ns, rfl, .inl (.of k1), fin0 r hq rfl⟩
    · cases hk
  · rename_i a h1
    split at hk
    · rename_i ns e
      cases hk
      obtain ⟨p, vs, rfl, k1, k2⟩ := r.lookT hx h1
      have g := k2.ints e
      subst g
      exact ⟨p, ns, rfl, .inr (.of k1), fin0 r hq rfl⟩
    · cases hk
  · cases hk
theorem foldl_max : ∀ (xs : List Int) (x : Int), (xs.foldl (fun a b => if a < b then b else a) x ∈ x :: xs) ∧ ∀ y ∈ x :: xs, y ≤ xs.foldl (fun a b => if a < b then b else a) x
  | [], x => ⟨List.mem_cons_self, fun y h => by rw [List.mem_singleton.mp h]; exact Int.le_refl _⟩
  | z :: xs, x => by
    rw [List.foldl_cons]
    obtain ⟨h1, h2⟩ := foldl_max xs (if x < z then z else x)
    refine ⟨?_, fun y hy => ?_⟩
    · rcases List.mem_cons.mp h1 with e | e
      · rw [e]
        split
        · exact List.mem_cons_of_mem _ List.mem_cons_self
        · exact List.mem_cons_self
      · exact List.mem_cons_of_mem _ (List.mem_cons_of_mem _ e)
    · have h3 := h2 _ List.mem_cons_self
      rcases List.mem_cons.mp hy with e | e
      · subst e
        split at h3 <;> rename_i hlt <;> simp only [hlt, if_true, if_false] at h3 ⊢ <;> omega
      · rcases List.mem_cons.mp e with e | e
        · subst e
          split at h3 <;> rename_i hlt <;> simp only [hlt, if_true, if_false] at h3 ⊢ <;> omega
        · exact h2 y (List.mem_cons_of_mem _ e)
theorem foldl_min : ∀ (xs : List Int) (x : Int), (xs.foldl (fun a b => if b < a then b else a) x ∈ x :: xs) ∧ ∀ y ∈ x :: xs, xs.foldl (fun a b => if b < a then b else a) x ≤ y
  | [], x => ⟨List.mem_cons_self, fun y h => by rw [List.mem_singleton.mp h]; exact Int.le_refl _⟩
  | z :: xs, x => by
    rw [List.foldl_cons]
    obtain ⟨h1, h2⟩ := foldl_min xs (if z < x then z else x)
    refine ⟨?_, fun y hy => ?_⟩
    · rcases List.mem_cons.mp h1 with e | e
      · rw [e]
        split
        · exact List.mem_cons_of_mem _ List.mem_cons_self
        · exact List.mem_cons_self
      · exact List.mem_cons_of_mem _ (List.mem_cons_of_mem _ e)
    · have h3 := h2 _ List.mem_cons_self
      rcases List.mem_cons.mp hy with e | e
      · subst e
        split at h3 <;> rename_i hlt <;> simp only [hlt, if_true, if_false] at h3 ⊢ <;> omega
      · rcases List.mem_cons.mp e with e | e
        · subst e
          split at h3 <;> rename_i hlt <;> simp only [hlt, if_true, if_false] at h3 ⊢ <;> omega
        · exact h2 y (List.mem_cons_of_mem _ e)
theorem cd_max (hc : X.calm = true) : C1D G X (.builtin "max") opMax := by
  refine ⟨_, cr_max hc, fun W σ H env S Q dx x c r hx hk hq => ?_⟩
  unfold opMax at hk
  split at hk
  · rename_i a h1
    split at hk
    · rename_i ns e
      split at hk
      · rename_i m hm
        cases hk
        obtain ⟨p, vs, rfl, k1, k2⟩ := r.lookL hx h1
        have g := k2.ints e
        subst g
        cases ns with
        | nil => cases hm
        | cons n ns =>
          simp only [maxOf] at hm
          cases hm
          obtain ⟨f1, f2⟩ := foldl_max ns n
          refine ⟨p, n :: ns, rfl, .of k1, by simp, fun m hm1 hm2 => ?_⟩
          rw [Int.le_antisymm (f2 m hm1) (hm2 _ f1)]
          exact fin0 r hq rfl
      · cases hk
    · cases hk
  · cases hk
theorem cd_min (hc : X.calm = true) : C1D G X (.builtin "min") opMin := by
  refine ⟨_, cr_min hc, fun W σ H env S Q dx x c r hx hk hq => ?_⟩
  unfold opMin at hk
  split at hk
  · rename_i a h1
    split at hk
    · rename_i ns e
      split at hk
      · rename_i m hm
        cases hk
        obtain ⟨p, vs, rfl, k1, k2⟩ := r.lookL hx h1
        have g := k2.ints e
        subst g
        cases ns with
        | nil => cases hm
        | cons n ns =>
          simp only [minOf] at hm
          cases hm
          obtain ⟨f1, f2⟩ := foldl_min ns n
          refine ⟨p, n :: ns, rfl, .of k1, by simp, fun m hm1 hm2 => ?_⟩
          rw [Int.le_antisymm (hm2 _ f1) (f2 m hm1)]
          exact fin0 r hq rfl
      · cases hk
    · cases hk
  · cases hk
/-! ## subscripts -/
theorem atI_eq {α : Type} (xs : List α) (i : Int) : L2.atI xs i = DL.atI xs i := by
  unfold L2.atI DL.atI ixN
  by_cases h : 0 ≤ i
  · rw [if_pos h, if_pos h]
    by_cases h1 : i < xs.length
    · rw [if_pos h1]; rfl
    · rw [if_neg h1]
      exact (List.getElem?_eq_none (by omega)).symm
  · rw [if_neg h, if_neg h]
    by_cases h1 : -(xs.length : Int) ≤ i
    · rw [if_pos h1, if_pos h1]; rfl
    · rw [if_neg h1, if_neg h1]; rfl
theorem Reps.atI {W : Wd} {ds : List D} {vs : List V} {i : Int} {d : D} (h : Reps W ds vs) (e : DL.atI ds i = some d) : ∃ v, DL.atI vs i = some v ∧ Rep W d v := by
  unfold DL.atI at e ⊢
  rw [← h.length]
  by_cases c : 0 ≤ i
  · rw [if_pos c] at e ⊢; exact h.get e
  · rw [if_neg c] at e ⊢
    by_cases c1 : -(ds.length : Int) ≤ i
    · rw [if_pos c1] at e ⊢; exact h.get e
    · rw [if_neg c1] at e; cases e
variable {Wx : WX} {a b : Expr} {f g : EM} {pos : Pos}
theorem dp_ix (ha : DE G X Wx a f) (hb : DE G X Wx b g) (hs : PlainIx b := by exact fun _ _ => rfl) : DP G X Wx (.Subscript a b pos) (dB2 f g opIx) := by
  obtain ⟨ta, pa, qa⟩ := ha
  obtain ⟨tb, pb, qb⟩ := hb
  refine ⟨_, pe_ix ix_seq pa pb hs, fun W σ H env S Q r0 h => ?_⟩
  refine d_two (R := fun x y H => rIx X.K x y H Q) qa qb r0 h fun W H env S dx dy x y c r hx hy hk hq => ?_
  unfold opIx at hk
  split at hk
  · rename_i xs i h1 h2
    obtain ⟨p, vs, rfl, k1, k2⟩ := r.lookT hx h1
    obtain ⟨v, e1, e2⟩ := k2.atI hk
    exact .inr (.inl ⟨p, vs, i, v, rfl, r.lookI hy h2, .of k1, by rw [atI_eq]; exact e1, fin0 r hq e2⟩)
  · rename_i xs i h1 h2
    obtain ⟨p, vs, rfl, k1, k2⟩ := r.lookL hx h1
    obtain ⟨v, e1, e2⟩ := k2.atI hk
    exact .inl ⟨p, vs, i, v, rfl, r.lookI hy h2, .of k1, by rw [atI_eq]; exact e1, fin0 r hq e2⟩
  · rename_i xs i h1 h2
    obtain ⟨p, vs, rfl, k1, k2⟩ := r.lookC hx h1
    obtain ⟨v, e1, e2⟩ := k2.atI hk
    exact .inl ⟨p, vs, i, v, rfl, r.lookI hy h2, k1, by rw [atI_eq]; exact e1, fin0 r hq e2⟩
  · cases hk
end
end DL

set_option linter.all false
set_option maxRecDepth 100000
set_option maxHeartbeats 4000000
namespace DL
open PySem PySem.Spec PyProof.Rows L2
theorem tuple_mul_one (l : Addr) (items : Array Value) (n : Nat) (dd : Option Addr) (sl : Array (Option Value)) (x : Int) (u : Tok) (c0 : (decide (x < -(2 ^ 63)) || decide (x ≥ 2 ^ 63)) = false) (c1 : (items.isEmpty || x == 1) = true) :
    Meets (Builtin.«tuple.__mul__» ⟨[.ref l, .int x u], []⟩) (fun _ R s => s.heap.get? l = some { cls := .type "tuple", dict := dd, data := .seq items n, slots := sl } ∧
      R (.ok (.ret (Value.ref l))) s) :=
  .of_wp fun prog w A R s h => by
    obtain ⟨hp, g, d, tk, os⟩ := s
    obtain ⟨hl, h⟩ := h
    have f1 := AutoSeq1.idx_int
    wp_walk using wpAny_loadPart' hl
    repeat (first
      | (refine wpAny_ite_false (decide_eq_false (by rw [c0]; exact Bool.false_ne_true)) ?_; wp_walk using wpAny_loadPart' hl)
      | (refine wpAny_ite_true (decide_eq_true (by rw [c1])) ?_; wp_walk using wpAny_loadPart' hl))
    exact ⟨_, rfl, h⟩
theorem tuple_mul_nil (l : Addr) (items : Array Value) (n : Nat) (dd : Option Addr) (sl : Array (Option Value)) (x : Int) (u : Tok) (c0 : (decide (x < -(2 ^ 63)) || decide (x ≥ 2 ^ 63)) = false) (c1 : (items.isEmpty || x == 1) = false) (c2 : (decide (x ≤ 0) || items.isEmpty) = true) :
    Meets (Builtin.«tuple.__mul__» ⟨[.ref l, .int x u], []⟩) (fun _ R s => s.heap.get? l = some { cls := .type "tuple", dict := dd, data := .seq items n, slots := sl } ∧
      R (.ok (.ret (Value.ref s.heap.objs.size))) { s with heap := s.heap.push { cls := Value.type "tuple", data := Data.seq #[] }, toks := s.toks }) :=
  .of_wp fun prog w A R s h => by
    obtain ⟨hp, g, d, tk, os⟩ := s
    obtain ⟨hl, h⟩ := h
    have f1 := AutoSeq1.idx_int
    wp_walk using wpAny_loadPart' hl
    repeat (first
      | (refine wpAny_ite_false (decide_eq_false (by rw [c0]; exact Bool.false_ne_true)) ?_; wp_walk using wpAny_loadPart' hl)
      | (refine wpAny_ite_false (decide_eq_false (by rw [c1]; exact Bool.false_ne_true)) ?_; wp_walk using wpAny_loadPart' hl)
      | (refine wpAny_ite_true (decide_eq_true (by rw [c2])) ?_; wp_walk using wpAny_loadPart' hl))
    exact ⟨_, rfl, h⟩
section
variable {G : Glb} {X : Cx}
def rRepA (K : PySem.W.Frag) : R2 := fun x y H Q => ∃ l k xs, x = .ref l ∧ y = .int k ∧ SqT K H l xs ∧ -1000 ≤ k ∧ k ≤ 1000 ∧ xs.length ≤ 1000 ∧ ((xs = [] ∨ k = 1) → Q (.ref l) H) ∧
  (xs ≠ [] → k ≠ 1 → ∀ p, H p = none → Q (.ref p) (upd H p (.tup (List.replicate k.toNat xs).flatten)))
theorem op_repA : OpR X (binaryOp .Mult) (rRepA X.K) := by
  intro pins s σ H x y v u Q I rx ry h
  obtain ⟨l, k, xs, rfl, rfl, hT, h1, h2, hz, q1, q2⟩ := h
  by_cases hk : xs ≠ [] ∧ 2 ≤ k
  · exact op_repT pins s σ H _ _ v u Q I rx ry ⟨l, k, xs, rfl, rfl, hT, hk.1, hk.2, h2, hz, q2 hk.1 (by omega)⟩
  cases rx
  obtain ⟨t, rfl⟩ := ry
  obtain ⟨its, r, ⟨⟨cls, dd, data, sl⟩, ho, hc, n, hd⟩, hs⟩ := I.tuple hT
  simp only at hc hd
  subst hc hd
  have c0 : (decide (k < -(2 ^ 63)) || decide (k ≥ 2 ^ 63)) = false := by
    rw [decide_eq_false (by omega), decide_eq_false (by omega)] <;> rfl
  by_cases h3 : xs = [] ∨ k = 1
  · have c1 : (its.toArray.isEmpty || k == 1) = true := by
      rcases h3 with e | e
      · subst e; cases r; rfl
      · subst e; simp
    exact wpAny_binaryOp_repeat_ref (T := "tuple") (U := "int") (by decide) ⟨_, ho, rfl⟩ (fun s' => typeIs_int s' k t) noFill_tuple_mul F.fills_int_mul F.slot_int_rmul repeat_tuple F.slot_int_index.lookup
      (call_meets F.slot_int_rmul (typeIs_int s k t) F.entry_int_rmul (F.args_int_rmul_2 _ _) (int_rmul_tuple k t l its.toArray n dd sl)
        ⟨ho, rfl, ⟨_, ho, rfl⟩, call_meets F.slot_tuple_mul ⟨_, ho, rfl⟩ F.entry_tuple_mul (F.args_tuple_mul_2 _ _) (tuple_mul_one l its.toArray n dd sl k t c0 c1) ⟨ho, ⟨.ref l, H, I, rfl, q1 h3⟩⟩⟩)
  · have hne : xs ≠ [] := fun e => h3 (.inl e)
    have hk1 : k ≠ 1 := fun e => h3 (.inr e)
    have hk0 : k ≤ 0 := by
      have : ¬ 2 ≤ k := fun e => hk ⟨hne, e⟩
      omega
    have hn : its ≠ [] := fun e => hne (r.nil_iff.mp e)
    have hi : its.toArray.isEmpty = false := by
      cases its with
      | nil => exact absurd rfl hn
      | cons a b => rfl
    have c1 : (its.toArray.isEmpty || k == 1) = false := by
      rw [hi, Bool.false_or]
      exact beq_eq_false_iff_ne.mpr hk1
    have c2 : (decide (k ≤ 0) || its.toArray.isEmpty) = true := by
      rw [hi, Bool.or_false]
      exact decide_eq_true hk0
    have e0 : (List.replicate k.toNat xs).flatten = [] := by
      rw [show k.toNat = 0 by omega]; rfl
    rw [e0] at q2
    refine wpAny_binaryOp_repeat_ref (T := "tuple") (U := "int") (by decide) ⟨_, ho, rfl⟩ (fun s' => typeIs_int s' k t) noFill_tuple_mul F.fills_int_mul F.slot_int_rmul repeat_tuple F.slot_int_index.lookup
      (call_meets F.slot_int_rmul (typeIs_int s k t) F.entry_int_rmul (F.args_int_rmul_2 _ _) (int_rmul_tuple k t l its.toArray n dd sl)
        ⟨ho, rfl, ⟨_, ho, rfl⟩, call_meets F.slot_tuple_mul ⟨_, ho, rfl⟩ F.entry_tuple_mul (F.args_tuple_mul_2 _ _) (tuple_mul_nil l its.toArray n dd sl k t c0 c1 c2) ⟨ho, ?_⟩⟩)
    refine ⟨.ref s.heap.objs.size, _, I.laid (t' := s.toks) (o := .tup []) (fun b ob q => Heap.get?_push_of_some _ q) (Nat.le_refl _) ?_, rfl, q2 hne hk1 _ (I.hok.fresh (Nat.le_refl _))⟩
    exact ⟨Nat.zero_le _, [], .nil, IsTup.new _ _⟩
theorem rep_one {α : Type} (xs : List α) : (List.replicate 1 xs).flatten = xs := by simp
theorem rep_nil {α : Type} : ∀ n : Nat, (List.replicate n ([] : List α)).flatten = []
  | 0 => rfl
  | n + 1 => by rw [List.replicate_succ, List.flatten_cons, rep_nil n]; rfl
theorem od_mul : OpD G X (binaryOp .Mult) opMul := by
  refine ⟨_, op_mulW.or (op_repA.or op_rep), fun W σ H env S Q dx dy x y c r hx hy hk hq => ?_⟩
  unfold opMul at hk
  split at hk
  · rename_i i j h1 h2
    split at hk
    · rename_i h
      cases hk
      exact .inl ⟨i, j, r.lookI hx h1, r.lookI hy h2, (show i.natAbs.log2 + j.natAbs.log2 < 1000000 from of_decide_eq_true h), fin0 r hq rfl⟩
    · cases hk
  · rename_i a k h1 h2
    split at hk
    · rename_i h
      cases hk
      unfold repOk at h
      simp only [Bool.and_eq_true, decide_eq_true_eq] at h
      obtain ⟨p, vs, rfl, k1, k2⟩ := r.lookL hx h1
      refine .inr (.inr ⟨p, k, vs, rfl, r.lookI hy h2, k1, by omega, by omega, ?_, finL r hq (k2.flat _)⟩)
      rw [← k2.length]
      have : a.length * k.toNat ≤ 1000 * 1000 := Nat.mul_le_mul h.2 (by omega)
      rw [big_eq]; omega
    · cases hk
  · rename_i a k h1 h2
    split at hk
    · rename_i h
      cases hk
      unfold repOk at h
      simp only [Bool.and_eq_true, decide_eq_true_eq] at h
      obtain ⟨p, vs, rfl, k1, k2, k3⟩ := r.lookTZ hx h1
      refine .inr (.inl ⟨p, k, vs, rfl, r.lookI hy h2, .of k1, h.1.1, h.1.2, by rw [← k2.length]; exact h.2, fun e => ?_, fun _ _ => finT r hq (k2.flat _)⟩)
      rcases e with e | e
      · have := k2.nil_of.mpr e
        subst this
        rw [rep_nil] at hq
        exact fin0 r hq k3
      · subst e
        rw [show ((1 : Int).toNat) = 1 from rfl, rep_one] at hq
        exact fin0 r hq k3
    · cases hk
  · cases hk
end
end DL

set_option Elab.async false
set_option linter.all false
set_option maxRecDepth 100000
set_option maxHeartbeats 4000000
namespace DL
open PySem PySem.Spec PyProof.Rows L2
section
variable {G : Glb} {X : Cx} {Wx : WX} {e a b c o : Expr} {es : List Expr} {f g h : EM} {fb gb hb : BM} {fa ga : AM} {pos p : Pos} {rest : List Expr}
/-! ## tests joined -/
theorem dt_not (ha : DT G X Wx a fb) : DT G X Wx (.UnaryOp .Not a pos) (bNot fb) := by
  obtain ⟨t, pt, q⟩ := ha
  refine ⟨_, pt_not pt, fun W σ H env S Q r h => q W σ H env S _ r (Post.seq h fun x e1 S1 W1 H1 v A r1 hx h1 => ?_)⟩
  cases (show x = v from hx)
  exact h1 W1 H1 _ .refl r1 rfl
theorem dt_w (ha : DW G X Wx e fb) : DT G X Wx e fb := by
  obtain ⟨t, pt, q⟩ := ha
  exact ⟨t, pt.pt, q⟩
theorem dw_and1 (ha : DT G X Wx a fb) : DW G X Wx (.BoolOp .And [a] pos) fb := by
  obtain ⟨t, pt, q⟩ := ha
  exact ⟨t, pw_and1 pt, q⟩
theorem dw_or1 (ha : DT G X Wx a fb) : DW G X Wx (.BoolOp .Or [a] pos) fb := by
  obtain ⟨t, pt, q⟩ := ha
  exact ⟨t, pw_or1 pt, q⟩
theorem dw_and (ha : DT G X Wx a fb) (hb : DW G X Wx (.BoolOp .And (b :: rest) pos) gb) : DW G X Wx (.BoolOp .And (a :: b :: rest) pos) (bAnd fb gb) := by
  obtain ⟨t, pt, q⟩ := ha
  obtain ⟨t', pt', q'⟩ := hb
  refine ⟨_, pw_and pt pt', fun W σ H env S Q r h => q W σ H env S _ r (Post.seq h fun x e1 S1 W1 H1 v A r1 hx h1 => ?_)⟩
  cases (show x = v from hx)
  cases x with
  | true => exact iteT (q' W1 σ H1 e1 S1 Q r1 h1)
  | false => exact iteF (h1 W1 H1 _ .refl r1 rfl)
theorem dw_or (ha : DT G X Wx a fb) (hb : DW G X Wx (.BoolOp .Or (b :: rest) pos) gb) : DW G X Wx (.BoolOp .Or (a :: b :: rest) pos) (bOr fb gb) := by
  obtain ⟨t, pt, q⟩ := ha
  obtain ⟨t', pt', q'⟩ := hb
  refine ⟨_, pw_or pt pt', fun W σ H env S Q r h => q W σ H env S _ r (Post.seq h fun x e1 S1 W1 H1 v A r1 hx h1 => ?_)⟩
  cases (show x = v from hx)
  cases x with
  | true => exact iteT (h1 W1 H1 _ .refl r1 rfl)
  | false => exact iteF (q' W1 σ H1 e1 S1 Q r1 h1)
/-! and, or, not as values (bools) -/
theorem dp_one {op} (ha : DP G X Wx a f) : DP G X Wx (.BoolOp op [a] pos) f := by
  obtain ⟨t, pt, q⟩ := ha
  exact ⟨t, pe_one pt, q⟩
theorem dp_and (ha : DP G X Wx a f) (hb : DP G X Wx (.BoolOp .And (b :: rest) pos) g) : DP G X Wx (.BoolOp .And (a :: b :: rest) pos) (dAnd f g) := by
  obtain ⟨t, pt, q⟩ := ha
  obtain ⟨t', pt', q'⟩ := hb
  refine ⟨_, pe_and pt pt', fun W σ H env S Q r h => q W σ H env S _ r (Post.seq h fun x e1 S1 W1 H1 v A r1 hx h1 => ?_)⟩
  cases x with
  | bl b =>
    cases (show v = V.bl b from hx)
    refine ⟨b, rfl, ?_⟩
    cases b with
    | true => exact iteT (q' W1 σ H1 e1 S1 Q r1 h1)
    | false => exact iteF (h1 W1 H1 _ .refl r1 rfl)
  | _ => exact h1.elim
theorem dp_or (ha : DP G X Wx a f) (hb : DP G X Wx (.BoolOp .Or (b :: rest) pos) g) : DP G X Wx (.BoolOp .Or (a :: b :: rest) pos) (dOr f g) := by
  obtain ⟨t, pt, q⟩ := ha
  obtain ⟨t', pt', q'⟩ := hb
  refine ⟨_, pe_or pt pt', fun W σ H env S Q r h => q W σ H env S _ r (Post.seq h fun x e1 S1 W1 H1 v A r1 hx h1 => ?_)⟩
  cases x with
  | bl b =>
    cases (show v = V.bl b from hx)
    refine ⟨b, rfl, ?_⟩
    cases b with
    | true => exact iteT (h1 W1 H1 _ .refl r1 rfl)
    | false => exact iteF (q' W1 σ H1 e1 S1 Q r1 h1)
  | _ => exact h1.elim
theorem dp_not (ha : DP G X Wx a f) : DP G X Wx (.UnaryOp .Not a pos) (dNot f) := by
  obtain ⟨t, pt, q⟩ := ha
  refine ⟨_, pe_not pt, fun W σ H env S Q r h => q W σ H env S _ r (Post.seq h fun x e1 S1 W1 H1 v A r1 hx h1 => ?_)⟩
  cases x with
  | bl b =>
    cases (show v = V.bl b from hx)
    exact ⟨b, rfl, h1 W1 H1 _ .refl r1 rfl⟩
  | _ => exact h1.elim
theorem dp_if (hc : DT G X Wx c fb) (ha : DP G X Wx a f) (hb : DP G X Wx b g) : DP G X Wx (.IfExp c a b pos) (dIf fb f g) := by
  obtain ⟨t, pt, q⟩ := hc
  obtain ⟨t1, pt1, q1⟩ := ha
  obtain ⟨t2, pt2, q2⟩ := hb
  refine ⟨_, pe_ifExp pt pt1 pt2, fun W σ H env S Q r h => q W σ H env S _ r (Post.seq h fun x e1 S1 W1 H1 v A r1 hx h1 => ?_)⟩
  cases (show x = v from hx)
  cases x with
  | true => exact iteT (q1 W1 σ H1 e1 S1 Q r1 h1)
  | false => exact iteF (q2 W1 σ H1 e1 S1 Q r1 h1)
/-! chains of comparisons -/
theorem d_chain {op op' : CmpOp} {r r' : R2} {ta tb tc : TE} {W : Wd} {σ : St} {H : Hp} {env : Env} {S : Store} {k k' : D → D → Option D} {Q : VK}
    (qa : ∀ W σ H env S Q, Rel X.K G W σ H env S → Post X.K G RB Wx W σ H env Q (f env S) → ta σ H Q) (qb : ∀ W σ H env S Q, Rel X.K G W σ H env S → Post X.K G RB Wx W σ H env Q (g env S) → tb σ H Q)
    (qc : ∀ W σ H env S Q, Rel X.K G W σ H env S → Post X.K G RB Wx W σ H env Q (h env S) → tc σ H Q)
    (hr : ∀ W σ H env S Q dx dy x y c, Rel X.K G W σ H env S → RepB W σ dx x → RepB W σ dy y → k (look env S dx) (look env S dy) = some c → (∀ W' H' v, Aft W σ H env W' σ H' env → Rel X.K G W' σ H' env S → Rep W' c v → Q v H') → r x y H Q)
    (hr' : ∀ W σ H env S Q dx dy x y c, Rel X.K G W σ H env S → RepB W σ dx x → RepB W σ dy y → k' (look env S dx) (look env S dy) = some c → (∀ W' H' v, Aft W σ H env W' σ H' env → Rel X.K G W' σ H' env S → Rep W' c v → Q v H') → r' x y H Q)
    (r0 : Rel X.K G W σ H env S) (hh : Post X.K G RP Wx W σ H env Q (dCh f g h k k' env S)) : tChain r r' ta tb tc σ H Q := by
  refine qa W σ H env S _ r0 (Post.seq hh fun d1 e1 S1 W1 H1 v1 A1 r1 q1 h1 => ?_)
  refine qb W1 σ H1 e1 S1 _ r1 (Post.seq h1 fun d2 e2 S2 W2 H2 v2 A2 r2 q2 h2 => ?_)
  split at h2
  · rename_i hk
    refine hr W2 σ H2 e2 S2 _ d1 d2 v1 v2 _ r2 (q1.mono A2.le) q2 hk fun W3 H3 v3 A3 r3 q3 => ?_
    cases (show v3 = V.bl true from q3)
    refine ⟨true, rfl, iteT (qc W3 σ H3 e2 S2 _ r3 (Post.seq (Post.after h2 A3) fun d4 e4 S4 W4 H4 v4 A4 r4 q4 h4 => ?_))⟩
    split at h4
    · rename_i c4 hk4
      exact hr' W4 σ H4 e4 S4 _ d2 d4 v2 v4 _ r4 ((q2.mono A3.le).mono A4.le) q4 hk4 fun W5 H5 v5 A5 r5 q5 => h4 W5 H5 v5 A5 r5 q5
    · exact h4.elim
  · rename_i hk
    refine hr W2 σ H2 e2 S2 _ d1 d2 v1 v2 _ r2 (q1.mono A2.le) q2 hk fun W3 H3 v3 A3 r3 q3 => ?_
    cases (show v3 = V.bl false from q3)
    exact ⟨false, rfl, iteF (h2 W3 H3 _ A3 r3 rfl)⟩
  · exact h2.elim
theorem dp_chain {op op' : CmpOp} {k k' : D → D → Option D} (o : OpD G X (compareOp op) k) (o' : OpD G X (compareOp op') k') (ha : DE G X Wx a f) (hb : DE G X Wx b g) (hc : DE G X Wx c h)
    (hm : lastMarks [op, op'] [b, c] = false := by with_unfolding_all rfl) : DP G X Wx (.Compare a [op, op'] [b, c] pos) (dCh f g h k k') := by
  obtain ⟨r, ho, hr⟩ := o
  obtain ⟨r', ho', hr'⟩ := o'
  obtain ⟨ta, pa, qa⟩ := ha
  obtain ⟨tb, pb, qb⟩ := hb
  obtain ⟨tc, pc, qc⟩ := hc
  exact ⟨_, pe_chain ho ho' pa pb pc hm, fun W σ H env S Q r0 hh => d_chain (op := op) (op' := op') qa qb qc hr hr' r0 hh⟩
theorem dt_chain {op op' : CmpOp} {k k' : D → D → Option D} (o : OpD G X (compareOp op) k) (o' : OpD G X (compareOp op') k') (ha : DE G X Wx a f) (hb : DE G X Wx b g) (hc : DE G X Wx c h)
    (hm : lastMarks [op, op'] [b, c] = false := by with_unfolding_all rfl) : DT G X Wx (.Compare a [op, op'] [b, c] pos) (dTest (dCh f g h k k')) := by
  obtain ⟨r, ho, hr⟩ := o
  obtain ⟨r', ho', hr'⟩ := o'
  obtain ⟨ta, pa, qa⟩ := ha
  obtain ⟨tb, pb, qb⟩ := hb
  obtain ⟨tc, pc, qc⟩ := hc
  exact ⟨_, pt_chain ho ho' pa pb pc hm, fun W σ H env S Q r0 hh => d_chain (op := op) (op' := op') qa qb qc hr hr' r0 (Post.test (α := D) hh)⟩

/-! ## argument lists, displays -/
theorem da_nil : DA G X Wx [] aNil := ⟨fun e S ds e' S' h => by cases h; rfl, _, pa_nil, fun W σ H env S Q r h => h W H [] .refl r rfl⟩
theorem da_cons (ha : DP G X Wx e f) (hr : DA G X Wx es fa) (hs : starEach (e :: es) X.env = (false, eval e X.env) :: starEach es X.env := by rfl) : DA G X Wx (e :: es) (aCons f fa) := by
  obtain ⟨t, pt, q⟩ := ha
  obtain ⟨len, t', pt', q'⟩ := hr
  refine ⟨fun e S ds e' S' h => ?_, _, pa_cons pt pt' hs, fun W σ H env S Q r h => q W σ H env S _ r (Post.seq h fun x e1 S1 W1 H1 v A r1 hx h1 => ?_)⟩
  · unfold aCons at h
    cases h1 : f e S with
    | ok d e1 S1 =>
      cases h2 : fa e1 S1 with
      | ok ds2 e2 S2 =>
        simp only [h1, h2, Out.bind] at h
        cases h
        rw [List.length_cons, List.length_cons, len _ _ _ _ _ h2]
      | exc c e2 S2 => simp only [h1, h2, Out.bind] at h; cases h
      | stuck => simp only [h1, h2, Out.bind] at h; cases h
    | exc c e1 S1 => simp only [h1, Out.bind] at h; cases h
    | stuck => simp only [h1, Out.bind] at h; cases h
  · exact q' W1 σ H1 e1 S1 _ r1 (Post.seq h1 fun y e2 S2 W2 H2 w A2 r2 hy h2 => h2 W2 H2 _ .refl r2 (.cons (hx.mono A2.le) hy))
theorem dp_tup {x1} (h : DA G X Wx es fa) (hl : es.length ≤ sizeLine := by decide) : DP G X Wx (.Tuple es x1 pos) (dTup fa) := by
  obtain ⟨len, t, pt, q⟩ := h
  refine ⟨_, pe_tup pt, fun W σ H env S Q r h => ?_⟩
  unfold dTup at h
  refine q W σ H env S _ r ?_
  cases hf : fa env S with
  | ok ds e' S' =>
    rw [hf] at h
    intro W1 H1 vs A r1 hx
    refine ⟨by rw [← Reps.length hx, len _ _ _ _ _ hf]; exact hl, ?_⟩
    exact finT r1 (fun W2 H2 v A2 r2 q2 => h W2 H2 v (A.trans A2) r2 q2) hx
  | exc c e' S' => rw [hf] at h; exact h
  | stuck => rw [hf] at h; exact h

/-! ## fresh lists -/
def PostF (K : PySem.W.Frag) (G : Glb) (Wx : WX) (W : Wd) (σ : St) (H : Hp) (env : Env) (Q : VK) : Out (List D) → Prop
  | .ok xs e S => ∀ W' H' a vs, Aft W σ H env W' σ H' e → Rel K G W' σ H' e S → H a = none → H' a = some (.lst vs) → Reps W' xs vs → W'.Z a = none → a ∉ W'.ρ → ¬ Owned e σ a → Q (.ref a) H'
  | .exc c e S => ∀ W' H', Aft W σ H env W' σ H' e → Rel K G W' σ H' e S → Wx (.ref (G.cls c)) none σ H'
  | .stuck => False
def DF (G : Glb) (X : Cx) (Wx : WX) (e : Expr) (f : LM) : Prop := ∃ t, PE X e t ∧ ∀ W σ H env S Q, Rel X.K G W σ H env S → PostF X.K G Wx W σ H env Q (f env S) → t σ H Q
theorem PostF.after {K : PySem.W.Frag} {W W' : Wd} {σ : St} {H H' : Hp} {env e' : Env} {Q : VK} {o : Out (List D)} (h : PostF K G Wx W σ H env Q o) (a : Aft W σ H env W' σ H' e') : PostF K G Wx W' σ H' e' Q o := by
  cases o with
  | ok x e S => exact fun W2 H2 b vs a2 r2 hb q => h W2 H2 b vs (a.trans a2) r2 (Classical.byContradiction fun z => a.tr b z hb) q
  | exc c e S => exact fun W2 H2 a2 r2 => h W2 H2 (a.trans a2) r2
  | stuck => exact h
theorem Aft.froze {W : Wd} {σ : St} {H H' : Hp} {env e' : Env} {W' : Wd} {a : Addr} {z : ZO} (A : Aft W σ H env W' σ H' e') (h0 : H a = none) (hz : W'.Z a = none) : Aft W σ H env (W'.addZ a z) σ H' e' :=
  ⟨A.le.trans (Le.addZ hz), A.keep, A.tr, A.nw, fun b q => by
    by_cases hb : b = a
    · subst hb; exact .inr (.inl h0)
    · rw [Wd.addZ_ne W' z hb] at q; exact A.zs b q, A.ow⟩
theorem DF.dp {f : LM} (d : DF G X Wx e f) : DP G X Wx e (dFz f) := by
  obtain ⟨t, pt, q⟩ := d
  refine ⟨t, pt, fun W σ H env S Q r h => q W σ H env S Q r ?_⟩
  unfold dFz at h
  cases hf : f env S with
  | ok xs e' S' =>
    rw [hf] at h
    intro W' H' a vs A r' h0 h1 h2 h3 h4 h5
    have r2 : Rel X.K G (W'.addZ a (.lst vs)) σ H' e' S' := r'.addZ h3 h1 h4 h5
    exact h _ H' _ (A.froze h0 h3) r2 (.lstAt (Wd.addZ_same W' a _) (h2.mono (Le.addZ h3)))
  | exc c e' S' => rw [hf] at h; exact h
  | stuck => rw [hf] at h; exact h
theorem DF.new {f : LM} (d : DF G X Wx e f) : DP G X Wx e (dNw f) := by
  obtain ⟨t, pt, q⟩ := d
  refine ⟨t, pt, fun W σ H env S Q r h => q W σ H env S Q r ?_⟩
  unfold dNw at h
  cases hf : f env S with
  | ok xs e' S' =>
    rw [hf] at h
    intro W' H' a vs A r' h0 h1 h2 h3 h4 h5
    have r2 : Rel X.K G (W'.addρ a) σ H' e' (S' ++ [.lst xs]) := r'.addρ h3 h4 h5 ⟨vs, h1, h2⟩
    refine h _ H' _ ⟨A.le.trans Le.addρ, A.keep, A.tr, fun b m => ?_, A.zs, A.ow⟩ r2 ⟨a, rfl, ?_⟩
    · rcases List.mem_append.mp m with y | y
      · exact A.nw b y
      · rw [List.mem_singleton.mp y]; exact .inr h0
    · show (W'.ρ ++ [a])[S'.length]? = some a
      rw [← r'.sl]; simp
  | exc c e' S' => rw [hf] at h; exact h
  | stuck => rw [hf] at h; exact h
/-- a rule that lays a new list of these items -/
theorem finF {W : Wd} {σ : St} {H : Hp} {env : Env} {S : Store} {Q : VK} {xs : List D} {vs : List V} (r : Rel X.K G W σ H env S) (h : PostF X.K G Wx W σ H env Q (.ok xs env S)) (q : Reps W xs vs) : ∀ p, H p = none → Q (.ref p) (upd H p (.lst vs)) := fun p hp =>
  h W _ p vs (Aft.new hp) (r.same (same_upd hp)) hp upd_same q (r.zfree hp) (r.ρfree hp) (r.ofree hp)
theorem Post.seqF {α0 β0 : Type} {R0 : Wd → St → α0 → β0 → Prop} {K : PySem.W.Frag} {W : Wd} {σ : St} {H : Hp} {env : Env} {Q : VK} {Q0 : β0 → Hp → Prop} {o : Out α0} {k : α0 → Env → Store → Out (List D)} (h : PostF K G Wx W σ H env Q (o.bind k))
    (step : ∀ a e S W' H' b, Aft W σ H env W' σ H' e → Rel K G W' σ H' e S → R0 W' σ a b → PostF K G Wx W' σ H' e Q (k a e S) → Q0 b H') : Post K G R0 Wx W σ H env Q0 o := by
  cases o with
  | ok x e S => exact fun W2 H2 b a2 r2 q => step x e S W2 H2 b a2 r2 q (PostF.after (show PostF K G Wx W σ H env Q (k x e S) from h) a2)
  | exc c e S => exact h
  | stuck => exact h
theorem df_lst (h : DA G X Wx es fa) (hl : es.length ≤ sizeLine := by decide) : DF G X Wx (.List es pos) fa := by
  obtain ⟨len, t, pt, q⟩ := h
  refine ⟨_, pe_lst pt, fun W σ H env S Q r h => ?_⟩
  refine q W σ H env S _ r ?_
  cases hf : fa env S with
  | ok ds e' S' =>
    rw [hf] at h
    intro W1 H1 vs A r1 hx
    exact ⟨by rw [← Reps.length hx, len _ _ _ _ _ hf]; exact hl, finF r1 (PostF.after h A) hx⟩
  | exc c e' S' => rw [hf] at h; exact h
  | stuck => rw [hf] at h; exact h
theorem df_add (ha : DE G X Wx a f) (hb : DE G X Wx b g) : DF G X Wx (.BinOp a .Add b pos) (dB2F f g lsAdd) := by
  obtain ⟨ta, pa, qa⟩ := ha
  obtain ⟨tb, pb, qb⟩ := hb
  refine ⟨_, pe_op op_cat pa pb, fun W σ H env S Q r0 h => ?_⟩
  refine qa W σ H env S _ r0 (Post.seqF h fun d1 e1 S1 W1 H1 v1 A1 r1 q1 h1 => ?_)
  refine qb W1 σ H1 e1 S1 _ r1 (Post.seqF h1 fun d2 e2 S2 W2 H2 v2 A2 r2 q2 h2 => ?_)
  split at h2
  · rename_i c hk
    unfold lsAdd at hk
    split at hk
    · rename_i x y k1 k2
      split at hk
      · rename_i hz
        cases hk
        obtain ⟨p, vs, rfl, g1, g2⟩ := r2.lookL (q1.mono A2.le) k1
        obtain ⟨q, ws, rfl, g3, g4⟩ := r2.lookL q2 k2
        exact ⟨p, q, vs, ws, rfl, rfl, g1, g3, by rw [← g2.length, ← g4.length]; exact hz, finF r2 h2 (g2.append g4)⟩
      · cases hk
    · cases hk
  · exact h2.elim
theorem df_mul (ha : DE G X Wx a f) (hb : DE G X Wx b g) : DF G X Wx (.BinOp a .Mult b pos) (dB2F f g lsMul) := by
  obtain ⟨ta, pa, qa⟩ := ha
  obtain ⟨tb, pb, qb⟩ := hb
  refine ⟨_, pe_op op_rep pa pb, fun W σ H env S Q r0 h => ?_⟩
  refine qa W σ H env S _ r0 (Post.seqF h fun d1 e1 S1 W1 H1 v1 A1 r1 q1 h1 => ?_)
  refine qb W1 σ H1 e1 S1 _ r1 (Post.seqF h1 fun d2 e2 S2 W2 H2 v2 A2 r2 q2 h2 => ?_)
  split at h2
  · rename_i c hk
    unfold lsMul at hk
    split at hk
    · rename_i x k k1 k2
      split at hk
      · rename_i hz
        cases hk
        unfold repOk at hz
        simp only [Bool.and_eq_true, decide_eq_true_eq] at hz
        obtain ⟨p, vs, rfl, g1, g2⟩ := r2.lookL (q1.mono A2.le) k1
        refine ⟨p, k, vs, rfl, r2.lookI q2 k2, g1, by omega, by omega, ?_, finF r2 h2 (g2.flat _)⟩
        rw [← g2.length]
        have : x.length * k.toNat ≤ 1000 * 1000 := Nat.mul_le_mul hz.2 (by omega)
        rw [big_eq]; omega
      · cases hk
    · cases hk
  · exact h2.elim
theorem df_list {x : Str} (hg : Gl X x) (hm : X.mg x = none) (hv : bootBuiltins x = some (.type "list")) (ha : DE G X Wx a f) (hn : x ≠ "__name__" := by decide) (hdb : (x == ("__debug__" : Str)) = false := by decide)
    (he : starEach [a] X.env = (false, eval a X.env) :: starEach [] X.env := by rfl) (hpl : (backTo pos (starEach [] X.env)).any (·.1) = false := by rfl) : DF G X Wx (.Call (.Name x p) [a] [] pos) (dB1F f lsOf) := by
  obtain ⟨ta, pa, qa⟩ := ha
  refine ⟨_, pe_callTy call_list_of hg hm hv (pa_cons pa pa_nil he) hn hdb he hpl, fun W σ H env S Q r0 h => ?_⟩
  refine qa W σ H env S _ r0 (Post.seqF h fun d1 e1 S1 W1 H1 v1 A1 r1 q1 h1 => ?_)
  split at h1
  · rename_i c hk
    unfold lsOf at hk
    split at hk
    · rename_i xs k1
      cases hk
      obtain ⟨p, vs, rfl, g1, g2⟩ := r1.lookT q1 k1
      exact ⟨p, vs, rfl, .inr (.of g1), finF r1 h1 g2⟩
    · rename_i xs k1
      cases hk
      obtain ⟨p, vs, rfl, g1, g2⟩ := r1.lookL q1 k1
      exact ⟨p, vs, rfl, .inl (.of g1), finF r1 h1 g2⟩
    · rename_i xs k1
      cases hk
      obtain ⟨p, vs, rfl, g1, g2⟩ := r1.lookC q1 k1
      exact ⟨p, vs, rfl, .inl g1, finF r1 h1 g2⟩
    · cases hk
  · exact h1.elim
end
end DL

set_option Elab.async false
set_option linter.all false
set_option maxRecDepth 100000
set_option maxHeartbeats 4000000
namespace DL
open PySem PySem.Spec PyProof.Rows L2
/-! ## defs and their calls -/
def FPost (K : PySem.W.Frag) (G : Glb) (W : Wd) (H : Hp) (Q : VK) (E : XK) : Res → Prop
  | .ok d S => ∀ W' H' v, Aft W [] H [] W' [] H' [] → Rel K G W' [] H' [] S → Rep W' d v → Q v H'
  | .exc c S => ∀ W' H', Aft W [] H [] W' [] H' [] → Rel K G W' [] H' [] S → E (.ref (G.cls c)) none H'
  | .stuck => False
def spD (K : PySem.W.Frag) (G : Glb) (n : Nat) (F : Fn) : Sp := fun vs H Q E => ∃ W ds S, Rel K G W [] H [] S ∧ Reps W ds vs ∧ ds.length = n ∧ FPost K G W H Q E (F ds S)
structure FnD (P : Program) (w : World) (K : PySem.W.Frag) (mg : Str → Option Value) (base : Heap) (G : Glb) (x : Str) (k n : Nat) (F : Fn) : Prop where
  ex : ∃ f fd ps, FnOk P w K mg base (L2.CX P w) k f fd ps (spD K G n F) ∧ mg x = some (.ref f) ∧ PySem.W.keepIn K (.ref f) = true ∧ Binds K fd ps []
section
variable {K : PySem.W.Frag} {G : Glb} {W W' : Wd} {σ : St} {H H' : Hp} {env : Env} {S S' : Store}
theorem Rel.back (r : Rel K G W σ H env S) (a : Aft W [] H [] W' [] H' []) (r' : Rel K G W' [] H' [] S') : Rel K G W' σ H' env S' where
  g := r'.g
  len := r.len
  fz := r'.fz
  sc := r'.sc
  sl := r'.sl
  st := r'.st
  inj := r'.inj
  va := fun i d e => by
    obtain ⟨v, h1, h2⟩ := r.va i d e
    exact ⟨v, h1, h2.mono a.le⟩
  ow := fun i xs e => by
    obtain ⟨b, vs, h1, h2, h3, h4, h5⟩ := r.ow i xs e
    refine ⟨b, vs, h1, a.keep b _ h2 h5 not_owned_nil, h3.mono a.le, ?_, fun m => ?_⟩
    · refine Classical.byContradiction fun q => ?_
      rcases a.zs b q with z | z | z
      · exact z h4
      · rw [h2] at z; cases z
      · exact not_owned_nil z
    · rcases a.nw b m with z | z
      · exact h5 z
      · rw [h2] at z; cases z
  sep := r.sep
theorem Aft.back (a : Aft W [] H [] W' [] H' []) : Aft W σ H env W' σ H' env :=
  ⟨a.le, fun b o h m _ => a.keep b o h m not_owned_nil, a.tr, a.nw, fun b q => by
    rcases a.zs b q with z | z | z
    · exact .inl z
    · exact .inr (.inl z)
    · exact (not_owned_nil z).elim, fun b q => .inl q⟩
end
section
variable {G : Glb} {X : Cx} {Wx : WX} {e a b c o : Expr} {es : List Expr} {f g h : EM} {fb gb hb : BM} {fa ga : AM} {pos p : Pos} {k n : Nat} {F : Fn} {x : Str}
theorem dp_call (c : FnD X.prog X.w X.K X.mg X.base G x k n F) (hr : Room k X.A) (T : Takes X Wx) (ha : DA G X Wx (e :: es) fa) (hn : (e :: es).length = n := by rfl) (hg : Gl X x := by rfl) (hdb : (x == ("__debug__" : Str)) = false := by decide)
    (he : starEach (e :: es) X.env = (false, eval e X.env) :: starEach es X.env := by rfl) (hpl : (backTo pos (starEach es X.env)).any (·.1) = false := by rfl) :
    DP G X Wx (.Call (.Name x p) (e :: es) [] pos) (dCall F fa) := by
  obtain ⟨f, fd, ps, Fo, hm, hk, hb⟩ := c.ex
  obtain ⟨len, t, pt, q⟩ := ha
  refine ⟨_, pe_callS Fo hr hg hm hk hb (fun σ => passAt T σ) pt hdb he hpl, fun W σ H env S Q r h => q W σ H env S _ r ?_⟩
  unfold dCall at h
  cases hf : fa env S with
  | ok ds e' S' =>
    rw [hf] at h
    intro W1 H1 vs A r1 hx
    refine ⟨W1, ds, S', r1.drop, hx, by rw [len _ _ _ _ _ hf]; exact hn, ?_⟩
    have h' : Post X.K G RP Wx W σ H env Q (match F ds S' with | .ok d S => .ok d e' S | .exc c S => .exc c e' S | .stuck => .stuck) := h
    cases hF : F ds S' with
    | ok d S2 => rw [hF] at h'; exact fun W2 H2 v A2 r2 q2 => h' W2 H2 v (A.trans A2.back) (r1.back A2 r2) q2
    | exc c S2 => rw [hF] at h'; exact fun W2 H2 A2 r2 => h' W2 H2 (A.trans A2.back) (r1.back A2 r2)
    | stuck => rw [hF] at h'; exact h'.elim
  | exc c e' S' => rw [hf] at h; exact h
  | stuck => rw [hf] at h; exact h
/-- f() where nothing is raised -/
def dCall0 (F : Fn) : EM := fun e S => match F [] S with
  | .ok d S => .ok d e S
  | _ => .stuck
theorem dp_call0 (c : FnD X.prog X.w X.K X.mg X.base G x k 0 F) (hr : Room k X.A) (hg : Gl X x := by rfl) (hdb : (x == ("__debug__" : Str)) = false := by decide) : DP G X Wx (.Call (.Name x p) [] [] pos) (dCall0 F) := by
  obtain ⟨f, fd, ps, Fo, hm, hk, hb⟩ := c.ex
  refine ⟨_, pe_call0 Fo hr hg hm hk hb .nil passL hdb, fun W σ H env S Q r h => ?_⟩
  unfold dCall0 at h
  refine ⟨W, [], S, r.drop, .nil, rfl, ?_⟩
  cases hF : F [] S with
  | ok d S2 => rw [hF] at h; exact fun W2 H2 v A2 r2 q2 => h W2 H2 v A2.back (r.back A2 r2) q2
  | exc c S2 => rw [hF] at h; exact h.elim
  | stuck => rw [hF] at h; exact h.elim

/-! ## statements -/
variable {st : Stmt} {rest : List Stmt} {s u : SM}
theorem dss_nil : DSs G X Wx [] sNext := ⟨_, pss_nil, fun W σ H env S Dn r h => h W σ H .refl r⟩
theorem SPost.seq {K : PySem.W.Frag} {W : Wd} {σ : St} {H : Hp} {env : Env} {S : Store} {Dn : Ends} {nx : St → Hp → Prop} (h : SPost K G Wx W σ H env Dn (sSeq s u env S))
    (step : ∀ W' σ' H' e' S', Rel K G W' σ' H' e' S' → SPost K G Wx W' σ' H' e' Dn (u e' S') → nx σ' H') : SPost K G Wx W σ H env { Dn with nx := nx } (s env S) := by
  unfold sSeq at h
  cases hs : s env S with
  | nx e' S' => rw [hs] at h; exact fun W' σ' H' A r => step W' σ' H' e' S' r (SPost.after h A)
  | rt d S' => rw [hs] at h; exact h
  | bk e' S' => rw [hs] at h; exact h
  | ct e' S' => rw [hs] at h; exact h
  | exc c e' S' => rw [hs] at h; exact h
  | stuck => rw [hs] at h; exact h
theorem dss_cons (h1 : DS G X Wx st s) (h2 : DSs G X Wx rest u) : DSs G X Wx (st :: rest) (sSeq s u) := by
  obtain ⟨t, pt, q⟩ := h1
  obtain ⟨t', pt', q'⟩ := h2
  exact ⟨_, pss_cons pt pt', fun W σ H env S Dn r h => q W σ H env S _ r (SPost.seq h fun W' σ' H' e' S' r' h' => q' W' σ' H' e' S' Dn r' h')⟩
theorem dss_one (h1 : DS G X Wx st s) : DSs G X Wx [st] s := by
  obtain ⟨t, pt, q⟩ := h1
  exact ⟨_, pss_one pt, q⟩
theorem ds_pass : DS G X Wx (.Pass pos) sNext := ⟨_, ps_pass, fun W σ H env S Dn r h => h W σ H .refl r⟩
theorem ds_expr (he : DP G X Wx e f) (hs : swapsWith e none pos.line X.env = pure false := by rfl) : DS G X Wx (.Expr e pos) (sDrop f) := by
  obtain ⟨t, pt, q⟩ := he
  refine ⟨_, ps_expr pt hs, fun W σ H env S Dn r h => q W σ H env S _ r (SPost.head h fun d e1 S1 W1 H1 v A r1 hx h1 => ?_)⟩
  exact h1 W1 σ H1 .refl r1
theorem ds_ret (he : DP G X Wx e f) : DS G X Wx (.Return (some e) pos) (sRet f) := by
  obtain ⟨t, pt, q⟩ := he
  refine ⟨_, ps_ret pt, fun W σ H env S Dn r h => q W σ H env S _ r (SPost.head h fun d e1 S1 W1 H1 v A r1 hx h1 => ?_)⟩
  exact h1 W1 H1 v Aft.refl.drop r1.drop hx
theorem ds_retN : DS G X Wx (.Return none pos) sRetN := ⟨_, ps_retN, fun W σ H env S Dn r h => h W H _ Aft.refl.drop r.drop rfl⟩
theorem ds_if {A B : List Stmt} (hc : DT G X Wx c fb) (ha : DSs G X Wx A s) (hb : DSs G X Wx B u) : DS G X Wx (.If c A B pos) (sIf fb s u) := by
  obtain ⟨t, pt, q⟩ := hc
  obtain ⟨t1, pt1, q1⟩ := ha
  obtain ⟨t2, pt2, q2⟩ := hb
  refine ⟨_, ps_if pt pt1 pt2, fun W σ H env S Dn r h => q W σ H env S _ r (SPost.head h fun x e1 S1 W1 H1 v A r1 hx h1 => ?_)⟩
  cases (show x = v from hx)
  cases x with
  | true => exact iteT (q1 W1 σ H1 e1 S1 Dn r1 h1)
  | false => exact iteF (q2 W1 σ H1 e1 S1 Dn r1 h1)
/-- x = e -/
theorem ds_set {i : Nat} {x : Str} {pos' : Pos} (he : DP G X Wx e f) (hN : X.N.Nodup) (hi : X.N[i]? = some x := by rfl) (hx : Loc X.env.scope x := by first | exact Or.inl rfl | exact Or.inr rfl) (hs : swapsWith e (some (.Name x pos')) pos.line X.env = pure false := by rfl)
    (hf : X.fn x = true ∨ X.env.scope.names.lookup x = some .local := by first | exact .inl rfl | exact .inr rfl) : DS G X Wx (.Assign [.Name x pos'] e pos) (sAsg f (gName i)) := by
  obtain ⟨t, pt, q⟩ := he
  refine ⟨_, ps_set hN hi hx pt hs hf, fun W σ H env S Dn r h => q W σ H env S _ r (SPost.head h fun d e1 S1 W1 H1 v A r1 hx h1 => ?_)⟩
  exact (show SPost X.K G Wx W1 σ H1 e1 Dn (.nx (e1.set i (.val d)) S1) from h1) W1 _ H1 .store (r1.store hx i)
/-- x = a new list of its own -/
theorem ds_own {i : Nat} {x : Str} {pos' : Pos} {f : LM} (he : DF G X Wx e f) (hN : X.N.Nodup) (hi : X.N[i]? = some x := by rfl) (hx : Loc X.env.scope x := by first | exact Or.inl rfl | exact Or.inr rfl) (hs : swapsWith e (some (.Name x pos')) pos.line X.env = pure false := by rfl)
    (hf : X.fn x = true ∨ X.env.scope.names.lookup x = some .local := by first | exact .inl rfl | exact .inr rfl) : DS G X Wx (.Assign [.Name x pos'] e pos) (sOwn i f) := by
  obtain ⟨t, pt, q⟩ := he
  refine ⟨_, ps_set hN hi hx pt hs hf, fun W σ H env S Dn r h => q W σ H env S _ r ?_⟩
  unfold sOwn at h
  cases hf : f env S with
  | ok xs e1 S1 =>
    rw [hf] at h
    intro W1 H1 a vs A r1 h0 h1 h2 h3 h4 h5
    refine h W1 _ H1 ⟨A.le, A.keep, A.tr, A.nw, A.zs, fun b hb => ?_⟩ (r1.storeOwn h1 h2 h3 h4 h5 i)
    rcases owned_own hb with z | z
    · rw [z]; exact .inr h0
    · exact A.ow b z
  | exc c e1 S1 => rw [hf] at h; exact fun W1 H1 A r1 => h W1 σ H1 A r1
  | stuck => rw [hf] at h; exact h
end
end DL

set_option Elab.async false
set_option linter.all false
set_option maxRecDepth 100000
set_option maxHeartbeats 4000000
namespace DL
open PySem PySem.Spec PyProof.Rows L2
mutual
theorem same_eq : ∀ {a b : D}, same a b = true → a = b
  | .non, b, h => by cases b <;> first | rfl | cases h
  | .bl a, b, h => by cases b <;> first | (cases h; done) | (simp only [same, beq_iff_eq] at h; subst h; rfl)
  | .int a, b, h => by cases b <;> first | (cases h; done) | (simp only [same, beq_iff_eq] at h; subst h; rfl)
  | .str a, b, h => by cases b <;> first | (cases h; done) | (simp only [same, beq_iff_eq] at h; subst h; rfl)
  | .tup a, b, h => by cases b <;> first | (cases h; done) | (simp only [same] at h; rw [sames_eq h])
  | .lst a, b, h => by cases b <;> first | (cases h; done) | (simp only [same] at h; rw [sames_eq h])
  | .scr a, b, h => by cases b <;> first | (cases h; done) | (simp only [same] at h; rw [sames_eq h])
  | .ref a, b, h => by cases b <;> first | (cases h; done) | (simp only [same, beq_iff_eq] at h; subst h; rfl)
  | .loc a, b, h => by cases b <;> first | (cases h; done) | (simp only [same, beq_iff_eq] at h; subst h; rfl)
  | .glb a, b, h => by cases b <;> first | (cases h; done) | (simp only [same, beq_iff_eq] at h; subst h; rfl)
  | .exc a, b, h => by cases b <;> first | (cases h; done) | (simp only [same, beq_iff_eq] at h; subst h; rfl)
theorem sames_eq : ∀ {a b : List D}, sames a b = true → a = b
  | [], b, h => by cases b <;> first | rfl | cases h
  | a :: as, b, h => by
    cases b with
    | nil => cases h
    | cons b bs =>
      simp only [sames, Bool.and_eq_true] at h
      rw [same_eq h.1, sames_eq h.2]
end
theorem still_at {dyn : List (Nat × List D)} {S : Store} (h : still dyn S = true) {n : Nat} {xs : List D} (m : (n, xs) ∈ dyn) : S[n]? = some (.lst xs) := by
  have q := List.all_eq_true.mp h _ m
  dsimp only at q
  split at q
  · rename_i ys e
    rw [e, sames_eq q]
  · cases q
/-! ## what is walked -/
def ItR (K : PySem.W.Frag) (G : Glb) (W : Wd) (J : It) (s : Src) : Prop := ∀ W2 σ2 H2 env2 S2, Le W W2 → Rel K G W2 σ2 H2 env2 S2 → still s.dyn S2 = true → ∀ i : Nat,
  (∀ d, s.items[i]? = some d → J.go i H2 ∧ ∀ x H', J.yld i H2 x H' → ∃ W3, Aft W2 σ2 H2 env2 W3 σ2 H' env2 ∧ Rel K G W3 σ2 H' env2 S2 ∧ Rep W3 d x) ∧ (s.items.length = i → J.stop i H2)
theorem ItR.mono {K : PySem.W.Frag} {G : Glb} {W W' : Wd} {J : It} {s : Src} (h : ItR K G W J s) (l : Le W W') : ItR K G W' J s := fun W2 σ2 H2 e2 S2 l2 => h W2 σ2 H2 e2 S2 (l.trans l2)
def RI (K : PySem.W.Frag) (G : Glb) : Wd → St → Src → It → Prop := fun W _ s J => ItR K G W J s
def DI (G : Glb) (X : Cx) (Wx : WX) (tg it : Expr) (f : IM) : Prop := ∃ t, PI X tg it t ∧ ∀ W σ H env S (R : It → Hp → Prop), Rel X.K G W σ H env S → Post X.K G (RI X.K G) Wx W σ H env R (f env S) → t σ H R
/-- reading a source: a list or a tuple at an address -/
inductive Kd where | L | T
def rdK (K : PySem.W.Frag) : Kd → Hp → Addr → List V → Prop
  | .L => SqL K
  | .T => SqT K
/-- a source and where it stands -/
def SrcAt (K : PySem.W.Frag) (G : Glb) (W : Wd) (s : Src) (k : Kd) (a : Addr) : Prop := ∀ W2 σ2 H2 env2 S2, Le W W2 → Rel K G W2 σ2 H2 env2 S2 → still s.dyn S2 = true → ∃ vs, rdK K k H2 a vs ∧ Reps W2 s.items vs
theorem SrcAt.mono {K : PySem.W.Frag} {G : Glb} {W W' : Wd} {s : Src} {k : Kd} {a : Addr} (h : SrcAt K G W s k a) (l : Le W W') : SrcAt K G W' s k a := fun W2 σ2 H2 e2 S2 l2 => h W2 σ2 H2 e2 S2 (l.trans l2)
theorem src_at {K : PySem.W.Frag} {G : Glb} {W : Wd} {σ : St} {H : Hp} {env : Env} {S : Store} {d : D} {v : V} {s : Src} (r : Rel K G W σ H env S) (h : Rep W d v) (e : srcD S d = some s) : ∃ a k vs, v = .ref a ∧ SrcAt K G W s k a ∧ rdK K k H a vs ∧ Reps W s.items vs := by
  unfold srcD at e
  split at e
  · cases e
    obtain ⟨a, vs, rfl, z, q⟩ := h
    exact ⟨a, .T, vs, rfl, fun W2 σ2 H2 e2 S2 l r2 _ => ⟨vs, .of (r2.fz a _ (l.z _ _ z)).1, q.mono l⟩, .of (r.fz a _ z).1, q⟩
  · cases e
    obtain ⟨a, vs, rfl, z, q⟩ := h
    exact ⟨a, .L, vs, rfl, fun W2 σ2 H2 e2 S2 l r2 _ => ⟨vs, .of (r2.fz a _ (l.z _ _ z)).1, q.mono l⟩, .of (r.fz a _ z).1, q⟩
  · cases e
    obtain ⟨a, vs, rfl, z, q⟩ := h
    have go : ∀ {W2 : Wd} {σ2 : St} {H2 : Hp} {e2 : Env} {S2 : Store}, Le W W2 → Rel K G W2 σ2 H2 e2 S2 → SqL K H2 a vs := fun {W2 σ2 H2 e2 S2} l r2 => by
      rcases r2.sc a vs (by rw [l.sc]; exact z) with y | ⟨o, y⟩
      · exact SqL.static y
      · exact .inl (.inr ⟨o, y⟩)
    exact ⟨a, .L, vs, rfl, fun W2 σ2 H2 e2 S2 l r2 _ => ⟨vs, go l r2, q.mono l⟩, go (.refl W) r, q⟩
  · rename_i n
    split at e
    · rename_i xs hx
      cases e
      obtain ⟨a, rfl, ha⟩ := h
      obtain ⟨a', h1, vs, h2, h3⟩ := r.st n _ hx
      rw [ha] at h1; cases h1
      refine ⟨a, .L, vs, rfl, fun W2 σ2 H2 e2 S2 l r2 hs => ?_, .of h2, h3⟩
      obtain ⟨b, k1, us, k2, k3⟩ := r2.st n _ (still_at hs (xs := xs) (by simp))
      obtain ⟨ρ', hρ⟩ := l.ρ
      rw [hρ, List.getElem?_append_left (List.getElem?_eq_some_iff.mp ha).1, ha] at k1
      cases k1
      exact ⟨us, .of k2, k3⟩
    · cases e
  · cases e
def ItlK (K : PySem.W.Frag) (a : Addr) : Kd → It
  | .L => Itl K a
  | .T => Itt K a
theorem seq_one {K : PySem.W.Frag} {G : Glb} {W : Wd} {s : Src} {k : Kd} {a : Addr} (h : SrcAt K G W s k a) : ItR K G W (ItlK K a k) s := fun W2 σ2 H2 e2 S2 l r hs i => by
  obtain ⟨vs, h1, h2⟩ := h W2 σ2 H2 e2 S2 l r hs
  refine ⟨fun d hd => ?_, fun hi => ?_⟩
  · obtain ⟨v, h3, h4⟩ := h2.get hd
    cases k with
    | L => exact ⟨⟨vs, v, h1, h3⟩, fun x H' ⟨e, y⟩ => ⟨W2, by rw [e]; exact .refl, by rw [e]; exact r, by have z := y vs h1; rw [h3] at z; cases z; exact h4⟩⟩
    | T => exact ⟨⟨vs, v, h1, h3⟩, fun x H' ⟨e, y⟩ => ⟨W2, by rw [e]; exact .refl, by rw [e]; exact r, by have z := y vs h1; rw [h3] at z; cases z; exact h4⟩⟩
  · have := h2.length
    cases k with
    | L => exact ⟨vs, h1, by omega⟩
    | T => exact ⟨vs, h1, by omega⟩
section
variable {G : Glb} {X : Cx} {Wx : WX} {e a b c o tg : Expr} {es : List Expr} {f g h : EM} {pos p : Pos}
def iAny (K : PySem.W.Frag) (tl : TE) : TI := fun σ H R => tl σ H fun x H1 => ∃ a, x = .ref a ∧ ((∃ xs, SqL K H1 a xs) ∧ R (Itl K a) H1 ∨ (∃ xs, SqT K H1 a xs) ∧ R (Itt K a) H1)
theorem pi_any {l : Expr} {tl : TE} (hl : PE X l tl) : PI X tg l (iAny X.K tl) := by
  refine ⟨fun pins s σ H R I h => ?_⟩
  refine thn (hl.run pins s σ H _ I h) fun v s1 ⟨x, H1, I1, r1, q1⟩ => ?_
  obtain ⟨a, e, q⟩ := q1
  subst e
  cases r1
  rcases q with ⟨⟨xs, hq⟩, q⟩ | ⟨⟨xs, hq⟩, q⟩
  · obtain ⟨its, rv, p, hz⟩ := I1.list hq
    refine wpAny_pyIter_list p.isList ?_
    refine ⟨s1.heap.objs.size, [s1.heap.objs.size], _, _, H1, rfl, I1.kept (t' := s1.toks) fun b o e => Heap.get?_push_of_some _ e, turn_list a _, ⟨_, Heap.get?_push_size _ rfl, rfl, rfl⟩, fun b hb => ?_, q⟩
    have e : b = s1.heap.objs.size := by simpa using hb
    subst e
    exact I1.fpOk (Nat.le_refl _) (I1.hok.fresh (Nat.le_refl _))
  · obtain ⟨its, rv, p, hz⟩ := I1.tuple hq
    refine wpAny_pyIter_tuple (show s1.heap.IsTuple a its.toArray from p) ?_
    refine ⟨s1.heap.objs.size, [s1.heap.objs.size], _, _, H1, rfl, I1.kept (t' := s1.toks) fun b o e => Heap.get?_push_of_some _ e, turn_tuple a _, ⟨_, Heap.get?_push_size _ rfl, rfl, rfl⟩, fun b hb => ?_, q⟩
    have e : b = s1.heap.objs.size := by simpa using hb
    subst e
    exact I1.fpOk (Nat.le_refl _) (I1.hok.fresh (Nat.le_refl _))
theorem di_seq (ha : DP G X Wx a f) : DI G X Wx tg a (iSeq f) := by
  obtain ⟨t, pt, q⟩ := ha
  refine ⟨_, pi_any pt, fun W σ H env S R r h => q W σ H env S _ r (Post.seq h fun d e1 S1 W1 H1 v A r1 hx h1 => ?_)⟩
  split at h1
  · rename_i s hs
    obtain ⟨a, k, vs, rfl, k1, k2, k3⟩ := src_at r1 hx hs
    have fin := h1 W1 H1 (ItlK X.K a k) .refl r1 (seq_one k1)
    refine ⟨a, rfl, ?_⟩
    cases k with
    | L => exact .inl ⟨⟨vs, k2⟩, fin⟩
    | T => exact .inr ⟨⟨vs, k2⟩, fin⟩
  · exact h1.elim
theorem rng_one {K : PySem.W.Frag} {W : Wd} (lo : Int) (n : Nat) : ItR K G W (Itr lo n) ⟨rngL lo n, []⟩ := fun W2 σ2 H2 e2 S2 l r hs i => by
  refine ⟨fun d hd => ?_, fun hi => by show n ≤ i; simp [rngL] at hi; omega⟩
  have hd' : (rngL lo n)[i]? = some d := hd
  unfold rngL at hd'
  rw [List.getElem?_map] at hd'
  by_cases hi : i < n
  · rw [List.getElem?_range hi] at hd'
    cases hd'
    exact ⟨hi, fun x H' ⟨e1, e2⟩ => ⟨W2, by rw [e1]; exact .refl, by rw [e1]; exact r, e2⟩⟩
  · rw [List.getElem?_eq_none (by simpa using hi)] at hd'; cases hd'
theorem di_rng1 (hm : X.mg "range" = none) (ha : DP G X Wx a f) (hg : Gl X "range" := by rfl) (hs : starEach [a] X.env = [(false, eval a X.env)] := by rfl) : DI G X Wx tg (.Call (.Name "range" p) [a] [] pos) (iRng1 f) := by
  obtain ⟨t, pt, q⟩ := ha
  refine ⟨_, pi_range1 hg hm (pa_cons pt pa_nil hs) hs, fun W σ H env S R r h => q W σ H env S _ r (Post.seq h fun d e1 S1 W1 H1 v A r1 hx h1 => ?_)⟩
  cases d with
  | int n =>
    have h1 : Post X.K G (RI X.K G) Wx W1 σ H1 e1 R (if rangeOk 0 n then .ok ⟨rngL 0 n.toNat, []⟩ e1 S1 else .stuck) := h1
    split at h1
    · rename_i hr
      cases (show v = V.int n from hx)
      unfold rangeOk at hr
      simp only [Bool.and_eq_true, decide_eq_true_eq] at hr
      exact ⟨n, rfl, by omega, by omega, h1 W1 H1 _ .refl r1 (rng_one 0 n.toNat)⟩
    · exact h1.elim
  | _ => exact h1.elim
theorem di_rng2 (hm : X.mg "range" = none) (ha : DP G X Wx a f) (hb : DP G X Wx b g) (hg : Gl X "range" := by rfl) (hs : starEach [a, b] X.env = [(false, eval a X.env), (false, eval b X.env)] := by rfl) (hs2 : starEach [b] X.env = [(false, eval b X.env)] := by rfl) : DI G X Wx tg (.Call (.Name "range" p) [a, b] [] pos) (iRng2 f g) := by
  obtain ⟨t, pt, q⟩ := ha
  obtain ⟨t2, pt2, q2⟩ := hb
  refine ⟨_, pi_range2 hg hm (pa_cons pt (pa_cons pt2 pa_nil hs2) (by rw [hs, hs2])) hs hs2, fun W σ H env S R r h => q W σ H env S _ r (Post.seq h fun d e1 S1 W1 H1 v A r1 hx h1 => q2 W1 σ H1 e1 S1 _ r1 (Post.seq h1 fun d2 e2 S2 W2 H2 v2 A2 r2 hx2 h2 => ?_))⟩
  split at h2
  · rename_i n m
    split at h2
    · rename_i hr
      cases (show v = V.int n from hx)
      cases (show v2 = V.int m from hx2)
      unfold rangeOk at hr
      simp only [Bool.and_eq_true, decide_eq_true_eq] at hr
      exact ⟨n, m, rfl, ⟨by omega, by omega, by omega, by omega⟩, h2 W2 H2 _ .refl r2 (rng_one n _)⟩
    · exact h2.elim
  · exact h2.elim
end
end DL

set_option Elab.async false
set_option linter.all false
set_option maxRecDepth 100000
set_option maxHeartbeats 4000000
namespace DL
open PySem PySem.Spec PyProof.Rows L2
def itK : Kd → Heap → Addr → Addr → Nat → Prop
  | .L => fun h it l i => h.IsListIter it l i
  | .T => fun h it l i => h.IsTupleIter it l i
def isK : Kd → Heap → Addr → Array Value → Prop
  | .L => fun h l items => h.IsList l items
  | .T => fun h l items => h.IsTuple l items
def itObj : Kd → Addr → Obj
  | .L => fun l => { cls := .type "list_iterator", data := .fields #[.ref l, .int 0 0] }
  | .T => fun l => { cls := .type "tuple_iterator", data := .fields #[.ref l, .int 0 0] }
theorem drawK {prog : Program} {w : World} {A : Around} (hh : A.handled = none) (k : Kd) (it l : Addr) (hne : l ≠ it) (items : Array Value) :
    Draws prog w A it [it, l] items.size (fun i v => items[i]? = some v) (fun i h => itK k h it l i ∧ isK k h l items) := by
  cases k with
  | L => exact Draws.list hh it l hne items
  | T => exact Draws.tuple hh it l hne items
theorem beginsK (k : Kd) (l : Addr) (items : Array Value) : Begins (.ref l) (itObj k l) fun h => isK k h l items := by
  cases k with
  | L => exact begins_list l items
  | T => exact begins_tuple l items
theorem itK_new {k : Kd} {h : Heap} {it l : Addr} (e : h.get? it = some (itObj k l)) : itK k h it l 0 := by
  cases k with
  | L => exact ⟨_, e, rfl, rfl⟩
  | T => exact ⟨_, e, rfl, rfl⟩
theorem itK_at {k : Kd} {h h' : Heap} {it l : Addr} {i : Nat} (x : itK k h it l i) (e : ∀ o, h.get? it = some o → h'.get? it = some o) : itK k h' it l i := by
  cases k with
  | L => obtain ⟨o, e1, c, d⟩ := x; exact ⟨o, e _ e1, c, d⟩
  | T => obtain ⟨o, e1, c, d⟩ := x; exact ⟨o, e _ e1, c, d⟩
theorem itK_obj {k : Kd} {h : Heap} {it l : Addr} {i : Nat} (x : itK k h it l i) : ∃ o, h.get? it = some o ∧ ∀ v, o.data ≠ .cell v := by
  cases k with
  | L => obtain ⟨o, e1, c, d⟩ := x; exact ⟨o, e1, fun v q => by rw [d] at q; cases q⟩
  | T => obtain ⟨o, e1, c, d⟩ := x; exact ⟨o, e1, fun v q => by rw [d] at q; cases q⟩
section
variable {X : Cx} {pins : List (Addr × Obj)} {σ : St} {H : Hp} {s : Shared} {a : Addr} {xs ys : List V} {k : Kd}
theorem rdK_its (I : Inv X pins σ H s) (h : rdK X.K k H a xs) : ∃ its : List Value, Vals xs its ∧ isK k s.heap a its.toArray ∧ a < s.heap.objs.size := by
  cases k with
  | L => obtain ⟨its, r, p, z⟩ := I.list h; exact ⟨its, r, p.isList, p.lt⟩
  | T => obtain ⟨its, r, p, z⟩ := I.tuple h; exact ⟨its, r, p, by obtain ⟨o, e, _⟩ := p; exact Heap.lt_size e⟩
theorem rdK_inj (I : Inv X pins σ H s) (h : rdK X.K k H a xs) (h' : rdK X.K k H a ys) : xs = ys := by
  cases k with
  | L => exact I.list_inj h h'
  | T => exact I.tuple_inj h h'
end
theorem ne_off {n a k : Nat} (h : a < n) : n + k ≠ a := by omega
/-- zip of two -/
def ItzK (K : PySem.W.Frag) (k1 k2 : Kd) (a b : Addr) : It :=
  ⟨fun i H => ∃ (xs ys : List V) (x y : V), rdK K k1 H a xs ∧ rdK K k2 H b ys ∧ xs[i]? = some x ∧ ys[i]? = some y,
    fun i H v H' => ∃ T x y, v = .ref T ∧ H T = none ∧ H' = upd H T (.tup [x, y]) ∧ (∀ xs, rdK K k1 H a xs → xs[i]? = some x) ∧ ∀ ys, rdK K k2 H b ys → ys[i]? = some y,
    fun i H => ∃ xs ys : List V, rdK K k1 H a xs ∧ rdK K k2 H b ys ∧ min xs.length ys.length = i⟩
theorem turn_zipK {P : Program} {w : World} {K : PySem.W.Frag} {elts : List Expr} {kk : Nat} {tpos : Pos} {a b z TI TO i1 i2 : Addr} (k1 k2 : Kd) (D : ZipSep2 z TI TO i1 i2 [i1, a] [i2, b]) :
    Turn P w K (.Tuple elts kk tpos) (ItzK K k1 k2 a b) [z, TI, TO, i1, i2] z (fun i h => IsZip h z TI TO .none ∧ IsTupOf2 h TI (.ref i1) (.ref i2) ∧ (∃ x y, IsTupOf2 h TO x y) ∧ itK k1 h i1 a i ∧ itK k2 h i2 b i) where
  mem := by simp
  obj := fun i h st c hc => by
    obtain ⟨hz, hTI, ⟨x, y, hTO⟩, h1, h2⟩ := st
    have e' : c = z ∨ c = TI ∨ c = TO ∨ c = i1 ∨ c = i2 := by simpa using hc
    rcases e' with q | q | q | q | q
    · rw [q]; exact ⟨_, hz, fun v q => nomatch q⟩
    · rw [q]; exact ⟨_, hTI, fun v q => nomatch q⟩
    · rw [q]; exact ⟨_, hTO, fun v q => nomatch q⟩
    · rw [q]; exact itK_obj h1
    · rw [q]; exact itK_obj h2
  keep := fun i h h' st k => by
    obtain ⟨hz, hTI, ⟨x, y, hTO⟩, h1, h2⟩ := st
    exact ⟨k z (by simp) _ hz, k TI (by simp) _ hTI, ⟨x, y, k TO (by simp) _ hTO⟩, itK_at h1 fun o q => k i1 (by simp) o q, itK_at h2 fun o q => k i2 (by simp) o q⟩
  item := by
    intro X hP hw hK hc i pins s σ H E I hf st hg
    subst hP hw hK
    obtain ⟨hz, hTI, ⟨x0, y0, hTO⟩, h1, h2⟩ := st
    obtain ⟨xs, ys, x, y, hqx, hqy, hx, hy⟩ := hg
    obtain ⟨its, rv, p, _⟩ := rdK_its I hqx
    obtain ⟨its2, rv2, p2, _⟩ := rdK_its I hqy
    have ne1 : a ≠ i1 := fun e => by
      obtain ⟨o, e1, _⟩ := itK_obj h1
      have hn := (hf i1 (by simp)).1
      rw [← e] at hn
      have : i1 ∉ [i2, b] := D.sep1_2
      cases k1 with
      | L =>
        obtain ⟨o1, q1, c1, _⟩ := h1
        obtain ⟨o2, q2, c2, _⟩ := p
        rw [e, q1] at q2; cases q2; rw [c1] at c2; injection c2 with c3; exact absurd c3 (by decide)
      | T =>
        obtain ⟨o1, q1, c1, _⟩ := h1
        obtain ⟨o2, q2, c2, _⟩ := p
        rw [e, q1] at q2; cases q2; rw [c1] at c2; injection c2 with c3; exact absurd c3 (by decide)
    have ne2 : b ≠ i2 := fun e => by
      cases k2 with
      | L =>
        obtain ⟨o1, q1, c1, _⟩ := h2
        obtain ⟨o2, q2, c2, _⟩ := p2
        rw [e, q1] at q2; cases q2; rw [c1] at c2; injection c2 with c3; exact absurd c3 (by decide)
      | T =>
        obtain ⟨o1, q1, c1, _⟩ := h2
        obtain ⟨o2, q2, c2, _⟩ := p2
        rw [e, q1] at q2; cases q2; rw [c1] at c2; injection c2 with c3; exact absurd c3 (by decide)
    have l1 := rv.length
    have l2 := rv2.length
    have b1 := (List.getElem?_eq_some_iff.mp hx).1
    have b2 := (List.getElem?_eq_some_iff.mp hy).1
    have hzl : z < s.heap.objs.size := Heap.lt_size hz
    have D1 := drawK (prog := X.prog) (w := X.w) (A := X.A.in1) (I.ok.hd hc) k1 i1 a ne1 its.toArray
    have D2 := drawK (prog := X.prog) (w := X.w) (A := X.A.in1) (I.ok.hd hc) k2 i2 b ne2 its2.toArray
    refine (GoesN.zip2 (elts := elts) (x1 := kk) (pos := tpos) D D1 D2).goes i s _ E ?_ ⟨hz, hTI, ⟨x0, y0, hTO⟩, ⟨h1, p⟩, ⟨h2, p2⟩⟩ fun v h' tk hY hst hk htk => ?_
    · simp only [List.size_toArray]; omega
    · obtain ⟨T, u, u2, ev, hT0, hu, hu2, hT⟩ := hY
      subst ev
      obtain ⟨w1, hw1, ru⟩ := rv.get hx
      obtain ⟨w2, hw2, ru2⟩ := rv2.get hy
      have hu' : its[i]? = some u := by simpa using hu
      have hu2' : its2[i]? = some u2 := by simpa using hu2
      rw [hu'] at hw1; cases hw1
      rw [hu2'] at hw2; cases hw2
      have new : ObjOk X.prog X.w (upd H T (.tup [x, y])) h' T (.tup [x, y]) :=
        ⟨by show 2 ≤ sizeLine; decide, [u, u2], .cons ru (.cons ru2 .nil), hT⟩
      have I1 : Inv X pins σ (upd H T (.tup [x, y])) { s with heap := h', toks := tk } :=
        I.turnedNew (t' := tk) (ch := [z, TI, TO, i1, i2]) (fun c o hb q => hk c o (fun m => hb (by
          have m' : c = z ∨ c = TO ∨ c = i1 ∨ c = i2 := by simpa using m
          rcases m' with m | m | m | m <;> simp [m])) q) hf hT0 new
      obtain ⟨g1, g2, g3, g4, g5⟩ := hst
      refine ⟨.ref T, _, I1, rfl, ⟨_, x, y, rfl, I.hok.fresh hT0, rfl, fun l hl => by rw [rdK_inj I hl hqx]; exact hx, fun l hl => by rw [rdK_inj I hl hqy]; exact hy⟩, ⟨g1, g2, g3, g4.1, g5.1⟩, fun c hcm => ?_⟩
      have hlt : c < s.heap.objs.size := by
        have e' : c = z ∨ c = TI ∨ c = TO ∨ c = i1 ∨ c = i2 := by simpa using hcm
        rcases e' with q | q | q | q | q
        · rw [q]; exact hzl
        · rw [q]; exact Heap.lt_size hTI
        · rw [q]; exact Heap.lt_size hTO
        · rw [q]; obtain ⟨_, e1, _⟩ := itK_obj h1; exact Heap.lt_size e1
        · rw [q]; obtain ⟨_, e2, _⟩ := itK_obj h2; exact Heap.lt_size e2
      rw [upd_ne (Nat.ne_of_lt (Nat.lt_of_lt_of_le hlt hT0))]
      exact (hf c hcm).1
  done := by
    intro X hP hw hK hc i pins s σ H E I hf st hg
    subst hP hw hK
    obtain ⟨hz, hTI, ⟨x0, y0, hTO⟩, h1, h2⟩ := st
    obtain ⟨xs, ys, hqx, hqy, hend⟩ := hg
    obtain ⟨its, rv, p, _⟩ := rdK_its I hqx
    obtain ⟨its2, rv2, p2, _⟩ := rdK_its I hqy
    have l1 := rv.length
    have l2 := rv2.length
    have ne1 : a ≠ i1 := fun e => by
      cases k1 with
      | L =>
        obtain ⟨o1, q1, c1, _⟩ := h1
        obtain ⟨o2, q2, c2, _⟩ := p
        rw [e, q1] at q2; cases q2; rw [c1] at c2; injection c2 with c3; exact absurd c3 (by decide)
      | T =>
        obtain ⟨o1, q1, c1, _⟩ := h1
        obtain ⟨o2, q2, c2, _⟩ := p
        rw [e, q1] at q2; cases q2; rw [c1] at c2; injection c2 with c3; exact absurd c3 (by decide)
    have ne2 : b ≠ i2 := fun e => by
      cases k2 with
      | L =>
        obtain ⟨o1, q1, c1, _⟩ := h2
        obtain ⟨o2, q2, c2, _⟩ := p2
        rw [e, q1] at q2; cases q2; rw [c1] at c2; injection c2 with c3; exact absurd c3 (by decide)
      | T =>
        obtain ⟨o1, q1, c1, _⟩ := h2
        obtain ⟨o2, q2, c2, _⟩ := p2
        rw [e, q1] at q2; cases q2; rw [c1] at c2; injection c2 with c3; exact absurd c3 (by decide)
    have D1 := drawK (prog := X.prog) (w := X.w) (A := X.A.in1) (I.ok.hd hc) k1 i1 a ne1 its.toArray
    have D2 := drawK (prog := X.prog) (w := X.w) (A := X.A.in1) (I.ok.hd hc) k2 i2 b ne2 its2.toArray
    have hn : min its.toArray.size its2.toArray.size = i := by simp only [List.size_toArray]; omega
    refine (GoesN.zip2 (elts := elts) (x1 := kk) (pos := tpos) D D1 D2).stops s _ E (by rw [hn]; exact ⟨hz, hTI, ⟨x0, y0, hTO⟩, ⟨h1, p⟩, ⟨h2, p2⟩⟩) fun h' tk hk htk => ?_
    exact I.turnedL (t' := tk) (ch := [z, TI, TO, i1, i2]) (fun c o hb q => hk c o (fun m => hb (by
      have m' : c = z ∨ c = TO ∨ c = i1 ∨ c = i2 := by simpa using m
      rcases m' with m | m | m | m <;> simp [m])) q) hf
  self := fun A i s Q E st h => wpAny_pyIter_zip st.1 h
section
variable {G : Glb} {X : Cx} {Wx : WX} {e a b c o tg : Expr} {es : List Expr} {f g h : EM} {pos p tpos : Pos} {elts : List Expr} {kk : Nat}
def iZipK (K : PySem.W.Frag) (ta : TA) : TI := fun σ H R => ta σ H fun vs H1 => ∃ a b k1 k2 xs ys, vs = [.ref a, .ref b] ∧ rdK K k1 H1 a xs ∧ rdK K k2 H1 b ys ∧ R (ItzK K k1 k2 a b) H1
theorem pi_zipK {e e2 : Expr} {ta : TA} (hg : Gl X "zip") (hm : X.mg "zip" = none) (ha : PA X [e, e2] ta)
    (hs : starEach [e, e2] X.env = (false, eval e X.env) :: starEach [e2] X.env := by rfl) (hpl : (backTo pos (starEach [e2] X.env)).any (·.1) = false := by rfl) :
    PI X (.Tuple elts kk tpos) (.Call (.Name "zip" p) [e, e2] [] pos) (iZipK X.K ta) := by
  refine ⟨fun pins s σ H R I h => ?_⟩
  refine Call_ (ld_blt I hg hm PyProof.Rows.boot_zip (PyProof.Rows.callWith_type1 (thn (ha.run pos pins s σ H _ I h) fun us s1 ⟨vs, H1, I1, r1, q1⟩ => ?_) hs hpl))
  obtain ⟨a, b, k1, k2, xs, ys, ex, hqx, hqy, q⟩ := q1
  subst ex
  cases r1 with
  | cons r rr =>
    cases rr with
    | cons r' rr =>
      cases rr
      cases r
      cases r'
      obtain ⟨its, rv, p1, la⟩ := rdK_its I1 hqx
      obtain ⟨its2, rv2, p2, lb⟩ := rdK_its I1 hqy
      refine zip_begins2 (beginsK k1 a its.toArray) (beginsK k2 b its2.toArray) p1 p2 fun h' hz hTI hTO h1 h2 hsz hk => wpAny_pyIter_zip hz ?_
      have I2 : Inv X pins σ H1 { s1 with heap := h' } := I1.kept (t' := s1.toks) hk
      have sep : ZipSep2 (s1.heap.objs.size + 4) (s1.heap.objs.size + 2) (s1.heap.objs.size + 3) s1.heap.objs.size (s1.heap.objs.size + 1) [s1.heap.objs.size, a] [s1.heap.objs.size + 1, b] := by
        have la' : (a : Nat) < s1.heap.objs.size := la
        have lb' : (b : Nat) < s1.heap.objs.size := lb
        have ne : ∀ (n m : Nat), n ≠ m → (s1.heap.objs.size + n : Nat) ≠ s1.heap.objs.size + m := fun n m h => by omega
        refine ⟨ne 2 4 (by decide), ne 3 4 (by decide), ne 2 3 (by decide), ne 2 0 (by decide), by simp, ?_, ?_, ne 2 1 (by decide), by simp, ?_, ?_, ?_, ?_⟩
        all_goals (intro m; simp only [List.mem_cons, List.not_mem_nil, or_false] at m; rcases m with m | m)
        all_goals first
          | (exact absurd m (ne 4 0 (by decide)))
          | (exact absurd m (ne 3 0 (by decide)))
          | (exact absurd m (ne 4 1 (by decide)))
          | (exact absurd m (ne 3 1 (by decide)))
          | (exact absurd m (ne 0 1 (by decide)))
          | (exact absurd m (ne 1 0 (by decide)))
          | (exact absurd m (ne_off la))
          | (exact absurd m (ne_off lb))
          | (exact absurd m (ne_off (k := 0) lb))
      refine ⟨s1.heap.objs.size + 4, [s1.heap.objs.size + 4, s1.heap.objs.size + 2, s1.heap.objs.size + 3, s1.heap.objs.size, s1.heap.objs.size + 1], _, _, H1, rfl, I2, turn_zipK k1 k2 sep, ⟨hz, hTI, ⟨_, _, hTO⟩, itK_new h1, itK_new h2⟩, fun c hcm => ?_, q⟩
      have e' : c = s1.heap.objs.size + 4 ∨ c = s1.heap.objs.size + 2 ∨ c = s1.heap.objs.size + 3 ∨ c = s1.heap.objs.size ∨ c = s1.heap.objs.size + 1 := by simpa using hcm
      have hle : s1.heap.objs.size ≤ c := by
        rcases e' with z | z | z | z | z
        · rw [z]; exact Nat.le_add_right _ _
        · rw [z]; exact Nat.le_add_right _ _
        · rw [z]; exact Nat.le_add_right _ _
        · rw [z]; exact Nat.le_refl _
        · rw [z]; exact Nat.le_add_right _ _
      exact I1.fpOk hle (I1.hok.fresh hle)
theorem pairUp_get : ∀ {xs ys : List D} {i : Nat} {d : D}, (pairUp xs ys)[i]? = some d → ∃ x y, xs[i]? = some x ∧ ys[i]? = some y ∧ d = .tup [x, y]
  | [], _, _, _, h => by simp [pairUp] at h
  | _ :: _, [], _, _, h => by simp [pairUp] at h
  | x :: xs, y :: ys, 0, d, h => by simp [pairUp] at h; exact ⟨x, y, rfl, rfl, h.symm⟩
  | x :: xs, y :: ys, i + 1, d, h => by
    simp only [pairUp, List.getElem?_cons_succ] at h
    obtain ⟨x', y', h1, h2, h3⟩ := pairUp_get (xs := xs) (ys := ys) (i := i) h
    exact ⟨x', y', by simpa using h1, by simpa using h2, h3⟩
theorem pairUp_len : ∀ (xs ys : List D), (pairUp xs ys).length = min xs.length ys.length
  | [], _ => by simp [pairUp]
  | _ :: _, [] => by simp [pairUp]
  | x :: xs, y :: ys => by simp [pairUp, pairUp_len xs ys]
theorem still_app {d1 d2 : List (Nat × List D)} {S : Store} (h : still (d1 ++ d2) S = true) : still d1 S = true ∧ still d2 S = true := by
  unfold still at h ⊢
  rw [List.all_append, Bool.and_eq_true] at h
  exact h
theorem zip_one {K : PySem.W.Frag} {W : Wd} {s t : Src} {k1 k2 : Kd} {a b : Addr} (h : SrcAt K G W s k1 a) (h' : SrcAt K G W t k2 b) : ItR K G W (ItzK K k1 k2 a b) ⟨pairUp s.items t.items, s.dyn ++ t.dyn⟩ := fun W2 σ2 H2 e2 S2 l r hs i => by
  obtain ⟨s1, s2⟩ := still_app hs
  obtain ⟨vs, h1, h2⟩ := h W2 σ2 H2 e2 S2 l r s1
  obtain ⟨ws, h3, h4⟩ := h' W2 σ2 H2 e2 S2 l r s2
  refine ⟨fun d hd => ?_, fun hi => ⟨vs, ws, h1, h3, by rw [← h2.length, ← h4.length, ← pairUp_len]; exact hi⟩⟩
  obtain ⟨x, y, hx, hy, rfl⟩ := pairUp_get hd
  obtain ⟨v, hv, rv⟩ := h2.get hx
  obtain ⟨u, hu, ru⟩ := h4.get hy
  refine ⟨⟨vs, ws, v, u, h1, h3, hv, hu⟩, fun z H' ⟨T, v', u', e1, e3, e4, g1, g2⟩ => ?_⟩
  have z1 := g1 vs h1
  rw [hv] at z1; cases z1
  have z2 := g2 ws h3
  rw [hu] at z2; cases z2
  subst e1 e4
  exact ⟨_, Aft.newZ (z := .tup [v, u]) r e3, r.newZ e3 upd_same, .tupAt (Wd.addZ_same W2 T _) (.cons (rv.mono (Le.addZ (r.zfree e3))) (.cons (ru.mono (Le.addZ (r.zfree e3))) .nil))⟩
theorem di_zip (hm : X.mg "zip" = none) (ha : DP G X Wx a f) (hb : DP G X Wx b g) (hg : Gl X "zip" := by rfl) (hs : starEach [a, b] X.env = (false, eval a X.env) :: starEach [b] X.env := by rfl) (hs2 : starEach [b] X.env = (false, eval b X.env) :: starEach [] X.env := by rfl) (hpl : (backTo pos (starEach [b] X.env)).any (·.1) = false := by rfl) :
    DI G X Wx (.Tuple elts kk tpos) (.Call (.Name "zip" p) [a, b] [] pos) (iZip f g) := by
  obtain ⟨t, pt, q⟩ := ha
  obtain ⟨t2, pt2, q2⟩ := hb
  refine ⟨_, pi_zipK hg hm (pa_cons pt (pa_cons pt2 pa_nil hs2) hs) hs hpl, fun W σ H env S R r h => q W σ H env S _ r (Post.seq h fun d e1 S1 W1 H1 v A r1 hx h1 => q2 W1 σ H1 e1 S1 _ r1 (Post.seq h1 fun d2 e2 S2 W2 H2 v2 A2 r2 hx2 h2 => ?_))⟩
  split at h2
  · rename_i s t hs ht
    obtain ⟨a, k1, vs, rfl, g1, g2, g3⟩ := src_at r2 (Rep.mono A2.le hx) hs
    obtain ⟨b, k2, ws, rfl, g4, g5, g6⟩ := src_at r2 hx2 ht
    exact ⟨a, b, k1, k2, vs, ws, rfl, g2, g5, h2 W2 H2 _ .refl r2 (zip_one g1 g4)⟩
  · exact h2.elim
end
end DL

set_option Elab.async false
set_option linter.all false
set_option maxRecDepth 100000
set_option maxHeartbeats 4000000
namespace PySem
open PySem PySem.Spec PyProof.Rows
theorem meets_enumerate_newB1 {v : Value} {o : Obj} {H : Heap → Prop} (B : Begins v o H) :
    Meets (Builtin.«enumerate.__new__» ⟨[.type "enumerate", v], []⟩) (fun _ R s => H s.heap ∧
      R (.ok (.ret (.ref (s.heap.push o).objs.size))) { s with heap := (s.heap.push o).push { cls := .type "enumerate", data := .fields #[.none, .bool false, .ref s.heap.objs.size, rawInt 0, .none, .none] } }) :=
  .of_wp fun prog w A R s h => by
    obtain ⟨hp, g, d, tk, os⟩ := s; obtain ⟨h1, h⟩ := h
    have hsub := sub_enumerate
    have q1 : ∀ {A' : Around} {E : Value → Shared → Prop} {Q : Value → Shared → Prop}, Q (.ref hp.objs.size) ⟨hp.push o, g, d, tk, os⟩ → wpAny (model prog w) A' (pyIter v) Q E ⟨hp, g, d, tk, os⟩ :=
      fun q => B.iter prog w _ _ ⟨hp, g, d, tk, os⟩ _ h1 q
    wp_walk using q1
    first
      | exact ⟨_, rfl, h⟩
      | (refine wpAny_stack_any fun st => wpAny_pure ?_
         split
         · rename_i c _ _ _ _ _
           cases (c == Value.type "enumerate")
           · wp_walk using q1
             exact ⟨_, rfl, h⟩
           · wp_walk using q1
             exact ⟨_, rfl, h⟩
         · wp_walk using q1
           exact ⟨_, rfl, h⟩)
section
variable {prog : Program} {w : World} {A : Around} {E : Value → Shared → Prop} {s : Shared}
theorem enum_begins1 {v : Value} {o : Obj} {H : Heap → Prop} {Q : Value → Shared → Prop} (B : Begins v o H) (h1 : H s.heap)
    (h : ∀ h', IsEnum h' (s.heap.objs.size + 1) s.heap.objs.size 0 .none → h'.get? s.heap.objs.size = some o → h'.objs.size = s.heap.objs.size + 2 →
      (∀ b o, s.heap.get? b = some o → h'.get? b = some o) → Q (.ref (s.heap.objs.size + 1)) { s with heap := h' }) :
    wpAny (model prog w) A (call (.type "enumerate") [v]) Q E s := by
  refine callType_new F.called_enumerate (by decide) (F.typeCall_enumerate_1 _) (F.newCall_enumerate_1 _) (fun obj => F.args_object_init_2 obj _) F.entry_enumerate_new
    (meets_enumerate_newB1 B) ⟨h1, ?_⟩
  have hz : (s.heap.push o).objs.size = s.heap.objs.size + 1 := Heap.size_push ..
  show _ ∧ _
  rw [hz]
  have he : IsEnum ((s.heap.push o).push { cls := .type "enumerate", data := .fields #[.none, .bool false, .ref s.heap.objs.size, rawInt 0, .none, .none] }) (s.heap.objs.size + 1) s.heap.objs.size 0 .none := by
    have q := Heap.get?_push_size (s.heap.push o) (o := { cls := .type "enumerate", data := .fields #[.none, .bool false, .ref s.heap.objs.size, rawInt 0, .none, .none] }) rfl
    rw [hz] at q
    exact q
  exact ⟨⟨_, he, rfl⟩, h _ he (Heap.get?_push_of_some _ (Heap.get?_push_size _ B.free)) (by rw [Heap.size_push, hz]) fun b o x => Heap.get?_push_of_some _ (Heap.get?_push_of_some _ x)⟩
end
end PySem
namespace DL
open PySem PySem.Spec PyProof.Rows L2
/-- enumerate of one -/
def IteK (K : PySem.W.Frag) (k : Kd) (a : Addr) : It :=
  ⟨fun i H => ∃ (xs : List V) (x : V), rdK K k H a xs ∧ xs[i]? = some x,
    fun i H v H' => ∃ T x, v = .ref T ∧ H T = none ∧ H' = upd H T (.tup [.int (i : Nat), x]) ∧ ∀ xs, rdK K k H a xs → xs[i]? = some x,
    fun i H => ∃ xs : List V, rdK K k H a xs ∧ xs.length = i⟩
theorem kd_apart {k : Kd} {h : Heap} {it a : Addr} {i : Nat} {items : Array Value} (h1 : itK k h it a i) (p : isK k h a items) : a ≠ it := fun e => by
  cases k with
  | L =>
    obtain ⟨o1, q1, c1, _⟩ := h1
    obtain ⟨o2, q2, c2, _⟩ := p
    rw [e, q1] at q2; cases q2; rw [c1] at c2; injection c2 with c3; exact absurd c3 (by decide)
  | T =>
    obtain ⟨o1, q1, c1, _⟩ := h1
    obtain ⟨o2, q2, c2, _⟩ := p
    rw [e, q1] at q2; cases q2; rw [c1] at c2; injection c2 with c3; exact absurd c3 (by decide)
theorem turn_enumK {P : Program} {w : World} {K : PySem.W.Frag} {elts : List Expr} {kk : Nat} {tpos : Pos} {a e it : Addr} (k : Kd) (hei : e ≠ it) (hea : e ≠ a) :
    Turn P w K (.Tuple elts kk tpos) (IteK K k a) [e, it] e (fun i h => (∃ old, IsEnum h e it ((0 : Int) + ((i : Nat) : Int)) old) ∧ itK k h it a i) where
  mem := by simp
  obj := fun i h st c hc => by
    obtain ⟨⟨old, he⟩, h1⟩ := st
    have e' : c = e ∨ c = it := by simpa using hc
    rcases e' with q | q
    · rw [q]; exact ⟨_, he, fun v q => nomatch q⟩
    · rw [q]; exact itK_obj h1
  keep := fun i h h' st kp => by
    obtain ⟨⟨old, he⟩, h1⟩ := st
    exact ⟨⟨old, kp e (by simp) _ he⟩, itK_at h1 fun o q => kp it (by simp) o q⟩
  item := by
    intro X hP hw hK hc i pins s σ H E I hf st hg
    subst hP hw hK
    obtain ⟨⟨old, he⟩, h1⟩ := st
    obtain ⟨xs, x, hqx, hx⟩ := hg
    obtain ⟨its, rv, p, _⟩ := rdK_its I hqx
    have ne1 := kd_apart h1 p
    have l1 := rv.length
    have b1 := (List.getElem?_eq_some_iff.mp hx).1
    have hel : e < s.heap.objs.size := Heap.lt_size he
    have D1 := drawK (prog := X.prog) (w := X.w) (A := X.A.in1) (I.ok.hd hc) k it a ne1 its.toArray
    refine (GoesN.enumFrom (elts := elts) (x1 := kk) (pos := tpos) 0 D1 e hei (by simp [hei, hea]) (by simp)).goes i s _ E ?_ ⟨⟨old, he⟩, ⟨h1, p⟩⟩ fun v h' tk hY hst hk htk => ?_
    · simp only [List.size_toArray]; omega
    · obtain ⟨T, t, u, ev, hT0, hu, hT⟩ := hY
      subst ev
      obtain ⟨w1, hw1, ru⟩ := rv.get hx
      have hu' : its[i]? = some u := by simpa using hu
      rw [hu'] at hw1; cases hw1
      have z0 : (0 : Int) + ((i : Nat) : Int) = (i : Nat) := by omega
      have new : ObjOk X.prog X.w (upd H T (.tup [.int (i : Nat), x])) h' T (.tup [.int (i : Nat), x]) :=
        ⟨by show 2 ≤ sizeLine; decide, [.int (0 + ((i : Nat) : Int)) t, u], .cons ⟨t, by rw [z0]⟩ (.cons ru .nil), hT⟩
      have I1 : Inv X pins σ (upd H T (.tup [.int (i : Nat), x])) { s with heap := h', toks := tk } :=
        I.turnedNew (t' := tk) (ch := [e, it]) (fun c o hb q => hk c o hb q) hf hT0 new
      obtain ⟨g1, g2⟩ := hst
      refine ⟨.ref T, _, I1, rfl, ⟨_, x, rfl, I.hok.fresh hT0, rfl, fun l hl => by rw [rdK_inj I hl hqx]; exact hx⟩, ⟨g1, g2.1⟩, fun c hcm => ?_⟩
      have hlt : c < s.heap.objs.size := by
        have e' : c = e ∨ c = it := by simpa using hcm
        rcases e' with q | q
        · rw [q]; exact hel
        · rw [q]; obtain ⟨_, e1, _⟩ := itK_obj h1; exact Heap.lt_size e1
      rw [upd_ne (Nat.ne_of_lt (Nat.lt_of_lt_of_le hlt hT0))]
      exact (hf c hcm).1
  done := by
    intro X hP hw hK hc i pins s σ H E I hf st hg
    subst hP hw hK
    obtain ⟨⟨old, he⟩, h1⟩ := st
    obtain ⟨xs, hqx, hend⟩ := hg
    obtain ⟨its, rv, p, _⟩ := rdK_its I hqx
    have ne1 := kd_apart h1 p
    have l1 := rv.length
    have D1 := drawK (prog := X.prog) (w := X.w) (A := X.A.in1) (I.ok.hd hc) k it a ne1 its.toArray
    have hn : its.toArray.size = i := by simp only [List.size_toArray]; omega
    refine (GoesN.enumFrom (elts := elts) (x1 := kk) (pos := tpos) 0 D1 e hei (by simp [hei, hea]) (by simp)).stops s _ E (by rw [hn]; exact ⟨⟨old, he⟩, ⟨h1, p⟩⟩) fun h' tk hk htk => ?_
    exact I.turnedL (t' := tk) (ch := [e, it]) (fun c o hb q => hk c o hb q) hf
  self := fun A i s Q E st h => by
    obtain ⟨⟨old, he⟩, _⟩ := st
    exact wpAny_pyIter_enum he h
section
variable {G : Glb} {X : Cx} {Wx : WX} {e a b c o tg : Expr} {es : List Expr} {f g h : EM} {pos p tpos : Pos} {elts : List Expr} {kk : Nat}
def iEnumK (K : PySem.W.Frag) (ta : TA) : TI := fun σ H R => ta σ H fun vs H1 => ∃ a k xs, vs = [.ref a] ∧ rdK K k H1 a xs ∧ R (IteK K k a) H1
theorem ne_off' {n a k : Nat} (h : a < n) : a ≠ n + k := by omega
theorem pi_enumK {e : Expr} {ta : TA} (hg : Gl X "enumerate") (hm : X.mg "enumerate" = none) (ha : PA X [e] ta) (hs : starEach [e] X.env = [(false, eval e X.env)] := by rfl) :
    PI X (.Tuple elts kk tpos) (.Call (.Name "enumerate" p) [e] [] pos) (iEnumK X.K ta) := by
  refine ⟨fun pins s σ H R I h => ?_⟩
  refine Call_ (ld_blt I hg hm boot_enumerate (PyProof.Rows.callWith_type1 (thn (ha.run pos pins s σ H _ I h) fun us s1 ⟨vs, H1, I1, r1, q1⟩ => ?_) hs rfl))
  obtain ⟨a, k, xs, ex, hq, q⟩ := q1
  subst ex
  cases r1 with
  | cons r rr =>
    cases rr
    cases r
    obtain ⟨its, rv, p', la⟩ := rdK_its I1 hq
    refine enum_begins1 (beginsK k a its.toArray) p' fun h' he hit hsz hk => wpAny_pyIter_enum he ?_
    have I2 : Inv X pins σ H1 { s1 with heap := h' } := I1.kept (t' := s1.toks) hk
    refine ⟨s1.heap.objs.size + 1, [s1.heap.objs.size + 1, s1.heap.objs.size], _, _, H1, rfl, I2, turn_enumK k (Nat.succ_ne_self _) (ne_off la), ⟨⟨.none, he⟩, itK_new hit⟩, fun b hb => ?_, q⟩
    have e' : b = s1.heap.objs.size + 1 ∨ b = s1.heap.objs.size := by simpa using hb
    have hle : s1.heap.objs.size ≤ b := by
      rcases e' with z | z
      · rw [z]; exact Nat.le_add_right _ _
      · rw [z]; exact Nat.le_refl _
    exact I1.fpOk hle (I1.hok.fresh hle)
theorem numbered_get : ∀ {xs : List D} {n i : Nat} {d : D}, (numbered n xs)[i]? = some d → ∃ x, xs[i]? = some x ∧ d = .tup [.int (n + i : Nat), x]
  | [], _, _, _, h => by simp [numbered] at h
  | x :: xs, n, 0, d, h => by simp [numbered] at h; exact ⟨x, rfl, h.symm⟩
  | x :: xs, n, i + 1, d, h => by
    simp only [numbered, List.getElem?_cons_succ] at h
    obtain ⟨y, h1, h2⟩ := numbered_get (xs := xs) (n := n + 1) (i := i) h
    exact ⟨y, by simpa using h1, by rw [h2, show n + 1 + i = n + (i + 1) by omega]⟩
theorem numbered_len : ∀ (n : Nat) (xs : List D), (numbered n xs).length = xs.length
  | _, [] => rfl
  | n, x :: xs => by simp [numbered, numbered_len (n + 1) xs]
theorem enum_one {K : PySem.W.Frag} {W : Wd} {s : Src} {k : Kd} {a : Addr} (h : SrcAt K G W s k a) : ItR K G W (IteK K k a) ⟨numbered 0 s.items, s.dyn⟩ := fun W2 σ2 H2 e2 S2 l r hs i => by
  obtain ⟨vs, h1, h2⟩ := h W2 σ2 H2 e2 S2 l r hs
  refine ⟨fun d hd => ?_, fun hi => ⟨vs, h1, by rw [← h2.length, ← numbered_len 0]; exact hi⟩⟩
  obtain ⟨x, hx, rfl⟩ := numbered_get hd
  obtain ⟨v, hv, rv⟩ := h2.get hx
  refine ⟨⟨vs, v, h1, hv⟩, fun z H' ⟨T, v', e1, e3, e4, g1⟩ => ?_⟩
  have z1 := g1 vs h1
  rw [hv] at z1; cases z1
  subst e1 e4
  exact ⟨_, Aft.newZ (z := .tup [.int (i : Nat), v]) r e3, r.newZ e3 upd_same, .tupAt (Wd.addZ_same W2 T _) (.cons (by rw [Nat.zero_add]; rfl) (.cons (rv.mono (Le.addZ (r.zfree e3))) .nil))⟩
theorem di_enum (hm : X.mg "enumerate" = none) (ha : DP G X Wx a f) (hg : Gl X "enumerate" := by rfl) (hs : starEach [a] X.env = [(false, eval a X.env)] := by rfl) :
    DI G X Wx (.Tuple elts kk tpos) (.Call (.Name "enumerate" p) [a] [] pos) (iEnum f) := by
  obtain ⟨t, pt, q⟩ := ha
  refine ⟨_, pi_enumK hg hm (pa_cons pt pa_nil hs) hs, fun W σ H env S R r h => q W σ H env S _ r (Post.seq h fun d e1 S1 W1 H1 v A r1 hx h1 => ?_)⟩
  split at h1
  · rename_i s hs
    obtain ⟨a, k, vs, rfl, g1, g2, g3⟩ := src_at r1 hx hs
    exact ⟨a, k, vs, rfl, g2, h1 W1 H1 _ .refl r1 (enum_one g1)⟩
  · exact h1.elim
end
end DL

set_option Elab.async false
set_option linter.all false
set_option maxRecDepth 100000
set_option maxHeartbeats 4000000
namespace DL
open PySem PySem.Spec PyProof.Rows L2
/-! ## the readings by meanings -/
def tP (K : PySem.W.Frag) (G : Glb) (Wx : WX) (f : EM) : TE := fun σ H Q => ∃ W env S, Rel K G W σ H env S ∧ Post K G RP Wx W σ H env Q (f env S)
def tT (K : PySem.W.Frag) (G : Glb) (Wx : WX) (f : BM) : TT := fun σ H Q => ∃ W env S, Rel K G W σ H env S ∧ Post K G RT Wx W σ H env Q (f env S)
def tI (K : PySem.W.Frag) (G : Glb) (Wx : WX) (f : IM) : TI := fun σ H R => ∃ W env S, Rel K G W σ H env S ∧ Post K G (RI K G) Wx W σ H env R (f env S)
section
variable {G : Glb} {X : Cx} {Wx : WX} {e a b c o tg : Expr} {es : List Expr} {f g h : EM} {fb gb hb : BM} {pos p : Pos} {k n : Nat} {F : Fn} {x : Str}
theorem DP.can (h : DP G X Wx e f) : PE X e (tP X.K G Wx f) := by
  obtain ⟨t, pt, q⟩ := h
  exact ⟨fun pins s σ H Q I ⟨W, env, S, r, h⟩ => pt.run pins s σ H Q I (q W σ H env S Q r h)⟩
theorem DT.can (h : DT G X Wx e fb) : PT X e (tT X.K G Wx fb) := by
  obtain ⟨t, pt, q⟩ := h
  exact ⟨fun pins s σ H Q I ⟨W, env, S, r, h⟩ => pt.run pins s σ H Q I (q W σ H env S Q r h)⟩
theorem DI.can {f : IM} (h : DI G X Wx tg e f) : PI X tg e (tI X.K G Wx f) := by
  obtain ⟨t, pt, q⟩ := h
  exact ⟨fun pins s σ H Q I ⟨W, env, S, r, h⟩ => pt.run pins s σ H Q I (q W σ H env S Q r h)⟩
/-- tests of a comprehension -/
def DTs (G : Glb) (X : Cx) (Wx : WX) (es : List Expr) (f : BM) : Prop := PTs X es (tT X.K G Wx f)
theorem dts_nil : DTs G X Wx [] bTrue := ⟨fun pins s σ H Q I ⟨W, env, S, r, h⟩ => pts_nil.run pins s σ H Q I (h W H true .refl r rfl)⟩
theorem dts_one (h : DT G X Wx c fb) : DTs G X Wx [c] fb := pts_one h.can

/-! ## targets; sl: the slots that they store -/
def GPost (K : PySem.W.Frag) (G : Glb) (W : Wd) (σ : St) (H : Hp) (env : Env) (sl : List Nat) (Q : St → Hp → Prop) : SOut → Prop
  | .nx e S => ∀ W' σ' H', Aft W σ H env W' σ' H' e → Rel K G W' σ' H' e S → (∀ vs : List Nat, (∀ i ∈ sl, i ∈ vs) → wipe σ' vs = wipe σ vs) → Q σ' H'
  | _ => False
def tG (K : PySem.W.Frag) (G : Glb) (sl : List Nat) (g : GM) : TG := fun v σ H Q => ∃ W env S d, Rel K G W σ H env S ∧ Rep W d v ∧ GPost K G W σ H env sl Q (g d env S)
def DG (G : Glb) (X : Cx) (tg : Expr) (sl : List Nat) (g : GM) : Prop := PG X tg (tG X.K G sl g)
def DGs (G : Glb) (X : Cx) (tgs : List Expr) (sl : List Nat) (gs : List GM) : Prop := PGs X tgs fun vs σ H Q => ∃ W env S ds, Rel X.K G W σ H env S ∧ Reps W ds vs ∧ GPost X.K G W σ H env sl Q (gAll gs ds env S)
theorem PG.imp {t t' : TG} (h : PG X tg t) (i : ∀ v σ H Q, t' v σ H Q → t v σ H Q) : PG X tg t' := ⟨fun pins s σ H v u Q I r q => h.run pins s σ H v u Q I r (i v σ H Q q)⟩
theorem PGs.imp {tgs : List Expr} {t t' : TGs} (h : PGs X tgs t) (i : ∀ v σ H Q, t' v σ H Q → t v σ H Q) : PGs X tgs t' := ⟨fun pins s σ H v u Q I r q => h.run pins s σ H v u Q I r (i v σ H Q q)⟩
theorem wipe_set {σ : St} {o : Option V} {i : Nat} : ∀ {vs : List Nat}, i ∈ vs → wipe (σ.set i o) vs = wipe σ vs
  | v :: vs, h => by
    show (wipe (σ.set i o) vs).set v none = (wipe σ vs).set v none
    by_cases hv : i ∈ vs
    · rw [wipe_set hv]
    · have e : i = v := (List.mem_cons.mp h).resolve_right hv
      subst e
      have gen : ∀ (ws : List Nat) (τ : St), i ∉ ws → wipe (τ.set i o) ws = (wipe τ ws).set i o := by
        intro ws
        induction ws with
        | nil => intro τ _; rfl
        | cons w ws ih =>
          intro τ hw
          have h1 : i ≠ w := fun e => hw (by rw [e]; exact List.mem_cons_self)
          show (wipe (τ.set i o) ws).set w none = ((wipe τ ws).set w none).set i o
          rw [ih τ (fun m => hw (List.mem_cons_of_mem _ m)), List.set_comm _ _ h1]
      rw [gen vs σ hv, List.set_set]
theorem dg_name {i : Nat} {x : Str} (hN : X.N.Nodup) (hi : X.N[i]? = some x := by rfl) (hx : Loc X.env.scope x := by first | exact Or.inl rfl | exact Or.inr rfl)
    (hf : X.fn x = true ∨ X.env.scope.names.lookup x = some .local := by first | exact .inl rfl | exact .inr rfl) : DG G X (.Name x pos) [i] (DL.gName i) :=
  PG.imp (pg_name hN hi hx hf) fun v σ H Q ⟨W, env, S, d, r, q, h⟩ => h W _ H .store (r.store q i) fun vs hv => wipe_set (hv i (by simp))
theorem dgs_nil : DGs G X [] [] [] := PGs.imp pgs_nil fun vs σ H Q ⟨W, env, S, ds, r, q, h⟩ => by
  cases ds with
  | nil => exact ⟨q, h W σ H .refl r fun vs _ => rfl⟩
  | cons d ds => exact h.elim
theorem dgs_cons {tgs : List Expr} {g : GM} {gs : List GM} {s1 s2 : List Nat} (h1 : DG G X e s1 g) (h2 : DGs G X tgs s2 gs)
    (hs : (assignEach (e :: tgs) X.env).map (·.2) = assign e X.env :: (assignEach tgs X.env).map (·.2) := by rfl) : DGs G X (e :: tgs) (s1 ++ s2) (g :: gs) := PGs.imp (pgs_cons h1 h2 hs) fun vs σ H Q ⟨W, env, S, ds, r, q, h⟩ => by
  cases ds with
  | nil => exact h.elim
  | cons d ds =>
    obtain ⟨v, ws, rfl, z1, z2⟩ := q
    refine ⟨v, ws, rfl, W, env, S, d, r, z1, ?_⟩
    have h' : GPost X.K G W σ H env (s1 ++ s2) Q (match g d env S with | .nx e S => gAll gs ds e S | o => o) := h
    cases hg : g d env S with
    | nx e' S' =>
      rw [hg] at h'
      intro W' σ' H' A r' w1
      refine ⟨W', e', S', ds, r', z2.mono A.le, ?_⟩
      have h'' : GPost X.K G W σ H env (s1 ++ s2) Q (gAll gs ds e' S') := h'
      cases hgs : gAll gs ds e' S' with
      | nx e2 S2 =>
        rw [hgs] at h''
        exact fun W2 σ2 H2 A2 r2 w2 => h'' W2 σ2 H2 (A.trans A2) r2 fun vs hv => (w2 vs fun i m => hv i (List.mem_append_right _ m)).trans (w1 vs fun i m => hv i (List.mem_append_left _ m))
      | _ => rw [hgs] at h''; exact h''.elim
    | _ => rw [hg] at h'; exact h'.elim
theorem dg_tup {tgs : List Expr} {gs : List GM} {kk : Nat} {sl : List Nat} (hc : X.calm = true) (h : DGs G X tgs sl gs) (hn : (assignEach tgs X.env).length = gs.length := by rfl) (hst : (assignEach tgs X.env).findIdx? (·.1) = none := by rfl) : DG G X (.Tuple tgs kk pos) sl (DL.gTup gs) :=
  PG.imp (pg_tup hc h hn hst) fun v σ H Q ⟨W, env, S, d, r, q, h⟩ => by
    cases d with
    | tup ds =>
      obtain ⟨a, vs, e, k1, k2⟩ := r.tup q
      have h' : GPost X.K G W σ H env sl Q (if ds.length = gs.length then gAll gs ds env S else .stuck) := h
      split at h'
      · rename_i hl
        exact ⟨a, vs, e, .of k1, by rw [← k2.length]; exact hl, W, env, S, ds, r, k2, h'⟩
      · exact h'.elim
    | _ => exact h.elim
/-- target = e -/
theorem ds_asg {g : GM} {sl : List Nat} (he : DP G X Wx e f) (hg : DG G X tg sl g) (hs : swapsWithSole [tg] e pos.line X.env = pure false := by rfl) (hw : swappedStores [tg] e X.env = pure none := by rfl)
    (h1 : (assignEach [tg] X.env).map (·.2) = [assign tg X.env] := by rfl) : DS G X Wx (.Assign [tg] e pos) (sAsg f g) := by
  obtain ⟨t, pt, q⟩ := he
  refine ⟨_, ps_asg pt hg hs hw h1, fun W σ H env S Dn r h => q W σ H env S _ r (SPost.head h fun d e1 S1 W1 H1 v A r1 hx h1 => ?_)⟩
  refine ⟨W1, e1, S1, d, r1, hx, ?_⟩
  have h1' : SPost X.K G Wx W1 σ H1 e1 Dn (match g d e1 S1 with | .nx e S => .nx e S | _ => .stuck) := h1
  cases hg : g d e1 S1 with
  | nx e2 S2 => rw [hg] at h1'; exact fun W2 σ2 H2 A2 r2 _ => h1' W2 σ2 H2 A2 r2
  | _ => rw [hg] at h1'; exact h1'.elim

/-! ## loops -/
theorem ds_for {it : IM} {g : GM} {body : List Stmt} {sb : SM} {sl : List Nat} (hp : PassesOwn (model X.prog X.w) X.A X.env X.xe) (hc : X.calm = true) (hi : DI G X Wx tg e it) (hg : DG G X tg sl g) (hb : DSs G X Wx body sb)
    (hs : ∀ x, foldedSetIterable e X.env x = pure x := by intro _; rfl) : DS G X Wx (.For tg e body [] pos) (sFor it g sb) := by
  obtain ⟨ti, pi, qi⟩ := hi
  obtain ⟨tb, pb, qb⟩ := hb
  refine ⟨_, ps_for hp hc pi hg pb hs, fun W σ H env S Dn r h => qi W σ H env S _ r (SPost.head h fun s e1 S1 W1 H1 J A1 r1 hJ h1 => ?_)⟩
  have hJ : ItR X.K G W1 J s := hJ
  have h1 : SPost X.K G Wx W1 σ H1 e1 Dn (turns s.dyn g sb s.items e1 S1) := h1
  refine ⟨fun i m σ' H' => i ≤ s.items.length ∧ m = s.items.length - i ∧ ∃ W' e' S', Le W1 W' ∧ Rel X.K G W' σ' H' e' S' ∧ SPost X.K G Wx W' σ' H' e' Dn (turns s.dyn g sb (s.items.drop i) e' S'),
    ⟨s.items.length, Nat.zero_le _, by simp, W1, e1, S1, .refl W1, r1, by simpa using h1⟩, ?_⟩
  rintro i m σ' H' ⟨hi, rfl, W', e', S', l', r', h'⟩
  by_cases hlt : i < s.items.length
  · rw [List.drop_eq_getElem_cons hlt] at h'
    have h2 : SPost X.K G Wx W' σ' H' e' Dn (if still s.dyn S' then (match g s.items[i] e' S' with
      | .nx e S => match sb e S with
        | .nx e S => turns s.dyn g sb (s.items.drop (i + 1)) e S
        | .ct e S => turns s.dyn g sb (s.items.drop (i + 1)) e S
        | .bk e S => .nx e S
        | o => o
      | _ => .stuck) else .stuck) := h'
    split at h2
    · rename_i hst
      obtain ⟨go, _⟩ := hJ W' σ' H' e' S' l' r' hst i
      obtain ⟨go, yl⟩ := go s.items[i] (List.getElem?_eq_getElem hlt)
      refine .inr ⟨go, fun σ'' H'' => ∃ W'' e'' S'', Le W1 W'' ∧ Rel X.K G W'' σ'' H'' e'' S'' ∧ SPost X.K G Wx W'' σ'' H'' e'' Dn (turns s.dyn g sb (s.items.drop (i + 1)) e'' S''),
        fun σ'' H'' ⟨W'', e'', S'', k1, k2, k3⟩ => ⟨s.items.length - (i + 1), by omega, by omega, rfl, W'', e'', S'', k1, k2, k3⟩, fun x H'' hy => ?_⟩
      obtain ⟨W3, A3, r3, rep⟩ := yl x H'' hy
      refine ⟨W3, e', S', s.items[i], r3, rep, ?_⟩
      cases hgo : g s.items[i] e' S' with
      | nx e4 S4 =>
        rw [hgo] at h2
        intro W4 σ4 H4 A4 r4 _
        refine qb W4 σ4 H4 e4 S4 _ r4 ?_
        have A34 := A3.trans A4
        cases hbo : sb e4 S4 with
        | nx e5 S5 =>
          simp only [hbo] at h2
          exact fun W5 σ5 H5 A5 r5 => ⟨W5, e5, S5, l'.trans ((A34.trans A5).le), r5, SPost.after h2 (A34.trans A5)⟩
        | ct e5 S5 =>
          simp only [hbo] at h2
          exact fun W5 σ5 H5 A5 r5 => ⟨W5, e5, S5, l'.trans ((A34.trans A5).le), r5, SPost.after h2 (A34.trans A5)⟩
        | bk e5 S5 =>
          simp only [hbo] at h2
          exact fun W5 σ5 H5 A5 r5 => h2 W5 σ5 H5 (A34.trans A5) r5
        | rt d5 S5 =>
          simp only [hbo] at h2
          exact fun W5 H5 v5 A5 r5 q5 => h2 W5 H5 v5 (A34.trans A5) r5 q5
        | exc c5 e5 S5 =>
          simp only [hbo] at h2
          exact fun W5 σ5 H5 A5 r5 => h2 W5 σ5 H5 (A34.trans A5) r5
        | stuck => simp only [hbo] at h2; exact h2
      | _ => rw [hgo] at h2; exact h2.elim
    · exact h2.elim
  · have e : i = s.items.length := by omega
    subst e
    rw [List.drop_length] at h'
    have h2 : SPost X.K G Wx W' σ' H' e' Dn (if still s.dyn S' then .nx e' S' else .stuck) := h'
    split at h2
    · rename_i hst
      exact .inl ⟨(hJ W' σ' H' e' S' l' r' hst _).2 rfl, h2 W' σ' H' .refl r'⟩
    · exact h2.elim
theorem ds_while {fuel : Env → Store → Nat} {body : List Stmt} {sb : SM} (hp : PassesOwn (model X.prog X.w) X.A X.env X.xe) (hc : DT G X Wx c fb) (hb : DSs G X Wx body sb) : DS G X Wx (.While c body [] pos) (sWhile fuel fb sb) := by
  obtain ⟨tc, pc, qc⟩ := hc
  obtain ⟨tb, pb, qb⟩ := hb
  refine ⟨_, ps_while hp pc pb, fun W σ H env S Dn r h => ?_⟩
  refine ⟨fun m σ' H' => ∃ W' e' S', Rel X.K G W' σ' H' e' S' ∧ SPost X.K G Wx W' σ' H' e' Dn (whileN fb sb m e' S'), ⟨fuel env S, W, env, S, r, h⟩, ?_⟩
  rintro m σ' H' ⟨W', e', S', r', h'⟩
  cases m with
  | zero => exact h'.elim
  | succ m =>
    refine qc W' σ' H' e' S' _ r' (SPost.head (show SPost X.K G Wx W' σ' H' e' Dn (sE (fb e' S') fun b e S => if b then (match sb e S with
      | .nx e S => whileN fb sb m e S
      | .ct e S => whileN fb sb m e S
      | .bk e S => .nx e S
      | o => o) else .nx e S) from h') fun x e1 S1 W1 H1 v A r1 hx h1 => ?_)
    cases (show x = v from hx)
    cases x with
    | true =>
      refine iteT ⟨fun σ2 H2 => ∃ W2 e2 S2, Rel X.K G W2 σ2 H2 e2 S2 ∧ SPost X.K G Wx W2 σ2 H2 e2 Dn (whileN fb sb m e2 S2), fun σ2 H2 q => ⟨m, Nat.lt_succ_self m, q⟩, qb W1 σ' H1 e1 S1 _ r1 ?_⟩
      have h2 : SPost X.K G Wx W1 σ' H1 e1 Dn (match sb e1 S1 with
        | .nx e S => whileN fb sb m e S
        | .ct e S => whileN fb sb m e S
        | .bk e S => .nx e S
        | o => o) := h1
      cases hbo : sb e1 S1 with
      | nx e5 S5 => rw [hbo] at h2; exact fun W5 σ5 H5 A5 r5 => ⟨W5, e5, S5, r5, SPost.after h2 A5⟩
      | ct e5 S5 => rw [hbo] at h2; exact fun W5 σ5 H5 A5 r5 => ⟨W5, e5, S5, r5, SPost.after h2 A5⟩
      | bk e5 S5 => rw [hbo] at h2; exact h2
      | rt d5 S5 => rw [hbo] at h2; exact h2
      | exc c5 e5 S5 => rw [hbo] at h2; exact h2
      | stuck => rw [hbo] at h2; exact h2
    | false => exact iteF (h1 W1 σ' H1 .refl r1)
end
end DL

set_option Elab.async false
set_option linter.all false
set_option maxRecDepth 100000
set_option maxHeartbeats 4000000
namespace DL
open PySem PySem.Spec PyProof.Rows L2
/-! ## comprehensions -/
theorem size_line : sizeLine = 16777216 := by decide
theorem wipes_length (e : Env) : ∀ vs : List Nat, (wipes vs e).length = e.length
  | [] => rfl
  | v :: vs => by unfold wipes; rw [List.length_set, wipes_length e vs]
theorem unwipe_length (e0 : Env) : ∀ (vs : List Nat) (e : Env), (unwipe e0 vs e).length = e.length
  | [], e => rfl
  | v :: vs, e => by
    unfold unwipe
    rw [unwipe_length e0 vs]
    split <;> rw [List.length_set]
theorem wipes_get {e : Env} {i : Nat} {x : Sl} : ∀ {vs : List Nat}, (wipes vs e)[i]? = some x → x = .non ∨ (i ∉ vs ∧ e[i]? = some x)
  | [], h => .inr ⟨by simp, h⟩
  | v :: vs, h => by
    unfold wipes at h
    rcases get_set h with ⟨_, y⟩ | ⟨z, y⟩
    · exact .inl y
    · rcases wipes_get y with k | ⟨k1, k2⟩
      · exact .inl k
      · refine .inr ⟨fun m => ?_, k2⟩
        rcases List.mem_cons.mp m with q | q
        · exact z q.symm
        · exact k1 q
theorem unwipe_get {e0 : Env} {i : Nat} {x : Sl} : ∀ {vs : List Nat} {e : Env}, (unwipe e0 vs e)[i]? = some x → (i ∉ vs ∧ e[i]? = some x) ∨ x = .non ∨ ∃ d, x = .val d ∧ e0[i]? = some (.val d)
  | [], e, h => .inl ⟨by simp, h⟩
  | v :: vs, e, h => by
    unfold unwipe at h
    have fin : ∀ (y : Sl), (y = .non ∨ ∃ d, y = .val d ∧ e0[v]? = some (.val d)) → (unwipe e0 vs (e.set v y))[i]? = some x → (i ∉ v :: vs ∧ e[i]? = some x) ∨ x = .non ∨ ∃ d, x = .val d ∧ e0[i]? = some (.val d) := fun y hy h => by
      rcases unwipe_get h with ⟨k1, k2⟩ | k
      · rcases get_set k2 with ⟨z, q⟩ | ⟨z, q⟩
        · subst z; subst q; exact .inr hy
        · refine .inl ⟨fun m => ?_, q⟩
          rcases List.mem_cons.mp m with p | p
          · exact z p.symm
          · exact k1 p
      · exact .inr k
    split at h
    · rename_i d hd
      exact fin _ (.inr ⟨d, rfl, hd⟩) h
    · exact fin _ (.inl rfl) h
theorem wipe_sub {σ : St} {vs : List Nat} : ∀ {ws : List Nat}, (∀ i ∈ ws, i ∈ vs) → wipe (wipe σ ws) vs = wipe σ vs
  | [], _ => rfl
  | w :: ws, h => by
    show wipe ((wipe σ ws).set w none) vs = _
    rw [wipe_set (h w List.mem_cons_self), wipe_sub fun i m => h i (List.mem_cons_of_mem _ m)]
section
variable {K : PySem.W.Frag} {G : Glb} {W W' W1 : Wd} {σ σ' σ0 : St} {H H' H1 : Hp} {env e e' e1 : Env} {S S' S1 : Store}
theorem owned_wipes {vs : List Nat} {a : Addr} (h : Owned (wipes vs env) (wipe σ vs) a) : Owned env σ a := by
  obtain ⟨i, xs, h1, h2⟩ := h
  rcases wipes_get h1 with z | ⟨_, z⟩
  · cases z
  · exact ⟨i, xs, z, (wipe_some h2).1⟩
theorem Rel.wipes (r : Rel K G W σ H env S) (vs : List Nat) : Rel K G W (wipe σ vs) H (wipes vs env) S where
  g := r.g
  len := by rw [wipes_length, wipe_length]; exact r.len
  fz := r.fz
  sc := r.sc
  sl := r.sl
  st := r.st
  inj := r.inj
  va := fun i d h => by
    rcases wipes_get h with z | ⟨z1, z2⟩
    · cases z
    · rw [wipe_out z1]; exact r.va i d z2
  ow := fun i xs h => by
    rcases wipes_get h with z | ⟨z1, z2⟩
    · cases z
    · rw [wipe_out z1]; exact r.ow i xs z2
  sep := fun i j xs ys a h1 h2 h3 h4 => by
    rcases wipes_get h1 with z | ⟨_, z1⟩
    · cases z
    rcases wipes_get h2 with z | ⟨_, z2⟩
    · cases z
    exact r.sep i j xs ys a z1 z2 (wipe_some h3).1 (wipe_some h4).1
theorem Aft.wipes (vs : List Nat) : Aft W σ H env W (wipe σ vs) H (wipes vs env) := ⟨.refl W, fun _ _ h _ _ => h, fun _ h => h, fun _ h => .inl h, fun _ h => .inl h, fun _ h => .inl (owned_wipes h)⟩
theorem owned_unwipe {vs : List Nat} {e0 : Env} {a : Addr} (h : Owned (unwipe e0 vs env) σ a) : Owned env (wipe σ vs) a := by
  obtain ⟨i, xs, h1, h2⟩ := h
  rcases unwipe_get h1 with ⟨z1, z2⟩ | z | ⟨d, z, _⟩
  · exact ⟨i, xs, z2, by rw [wipe_out z1]; exact h2⟩
  · cases z
  · cases z
theorem Rel.unwipe {vs : List Nat} (r : Rel K G W σ H e S) (l : Le W W') (r' : Rel K G W' (wipe σ vs) H' e' S') : Rel K G W' σ H' (unwipe e vs e') S' where
  g := r'.g
  len := by rw [unwipe_length, r'.len, wipe_length]
  fz := r'.fz
  sc := r'.sc
  sl := r'.sl
  st := r'.st
  inj := r'.inj
  va := fun i d h => by
    rcases unwipe_get h with ⟨z1, z2⟩ | z | ⟨d', z, z2⟩
    · have q := r'.va i d z2
      rw [wipe_out z1] at q; exact q
    · cases z
    · cases z
      obtain ⟨v, k1, k2⟩ := r.va i d z2
      exact ⟨v, k1, k2.mono l⟩
  ow := fun i xs h => by
    rcases unwipe_get h with ⟨z1, z2⟩ | z | ⟨d', z, z2⟩
    · have q := r'.ow i xs z2
      rw [wipe_out z1] at q; exact q
    · cases z
    · cases z
  sep := fun i j xs ys a h1 h2 h3 h4 => by
    rcases unwipe_get h1 with ⟨y1, z1⟩ | z | ⟨d', z, _⟩
    · rcases unwipe_get h2 with ⟨y2, z2⟩ | z | ⟨d', z, _⟩
      · exact r'.sep i j xs ys a z1 z2 (by rw [wipe_out y1]; exact h3) (by rw [wipe_out y2]; exact h4)
      · cases z
      · cases z
    · cases z
    · cases z
theorem Rel.mutFree {a : Addr} {us vs : List V} (r : Rel K G W σ H env S) (h0 : H a = some (.lst us)) (h1 : W.Z a = none) (h2 : a ∉ W.ρ) (h3 : ¬ Owned env σ a) : Rel K G W σ (upd H a (.lst vs)) env S := by
  have out : ∀ b o, b ≠ a → H b = some o → upd H a (.lst vs) b = some o := fun b o hb hq => by rw [upd_ne hb]; exact hq
  refine ⟨r.g, r.len, fun b z hz => ?_, fun b ws hb => (r.sc b ws hb).imp id fun ⟨o, h⟩ => ⟨o, out b _ (fun z => by rw [z, h0] at h; cases h) h⟩, r.sl, fun n o hn => ?_, r.inj, r.va, fun j xs hj => ?_, r.sep⟩
  · have hb : b ≠ a := fun y => by rw [y, h1] at hz; cases hz
    exact ⟨(r.fz b z hz).1.up fun o => out b o hb, (r.fz b z hz).2⟩
  · obtain ⟨b, k1, k2⟩ := r.st n o hn
    have hb : b ≠ a := fun z => h2 (by rw [← z]; exact List.mem_of_getElem? k1)
    refine ⟨b, k1, ?_⟩
    cases o with
    | lst ds => obtain ⟨us, k3, k4⟩ := k2; exact ⟨us, out _ _ hb k3, k4⟩
    | ins c fs => obtain ⟨dx, vfs, k3, k4⟩ := k2; exact ⟨dx, vfs, out _ _ hb k3, k4⟩
  · obtain ⟨b, us, k1, k2, k3, k4, k5⟩ := r.ow j xs hj
    exact ⟨b, us, k1, out _ _ (fun y => h3 ⟨j, xs, hj, by rw [← y]; exact k1⟩) k2, k3, k4, k5⟩
/-- the loop's new list at D, the rest as related -/
structure LI (K : PySem.W.Frag) (G : Glb) (W1 : Wd) (σ0 : St) (H1 : Hp) (e1 : Env) (D : Addr) (W : Wd) (σ : St) (H : Hp) (e : Env) (S : Store) (acc : List DL.D) (accV : List V) : Prop where
  a : Aft W1 σ0 H1 e1 W σ H e
  r : Rel K G W σ H e S
  d : H D = some (.lst accV)
  q : Reps W acc accV
  z : W.Z D = none
  n : D ∉ W.ρ
  o : ¬ Owned e σ D
variable {D : Addr} {acc : List DL.D} {accV : List V}
theorem LI.step (l : LI K G W1 σ0 H1 e1 D W σ H e S acc accV) (A : Aft W σ H e W' σ' H' e') (r' : Rel K G W' σ' H' e' S') : LI K G W1 σ0 H1 e1 D W' σ' H' e' S' acc accV where
  a := l.a.trans A
  r := r'
  d := A.keep D _ l.d l.n l.o
  q := l.q.mono A.le
  z := Classical.byContradiction fun h => by
    rcases A.zs D h with k | k | k
    · exact k l.z
    · rw [l.d] at k; cases k
    · exact l.o k
  n := fun h => by
    rcases A.nw D h with k | k
    · exact l.n k
    · rw [l.d] at k; cases k
  o := fun h => by
    rcases A.ow D h with k | k
    · exact l.o k
    · rw [l.d] at k; cases k
theorem LI.push (l : LI K G W1 σ0 H1 e1 D W σ H e S acc accV) (hD : H1 D = none) {y : V} {d : DL.D} (h : Rep W d y) : LI K G W1 σ0 H1 e1 D W σ (upd H D (.lst (accV ++ [y]))) e S (acc ++ [d]) (accV ++ [y]) where
  a := ⟨l.a.le, fun b o h1 h2 h3 => by
    rw [upd_ne (fun z => by rw [z, hD] at h1; cases h1)]; exact l.a.keep b o h1 h2 h3, fun b h => upd_tr b (l.a.tr b h), l.a.nw, l.a.zs, l.a.ow⟩
  r := l.r.mutFree l.d l.z l.n l.o
  d := upd_same
  q := l.q.append (.cons h .nil)
  z := l.z
  n := l.n
  o := l.o
theorem LI.wipes (l : LI K G W1 σ0 H1 e1 D W σ H e S acc accV) (vs : List Nat) : LI K G W1 σ0 H1 e1 D W (wipe σ vs) H (wipes vs e) S acc accV := l.step (.wipes vs) (l.r.wipes vs)
theorem LI.start (r : Rel K G W σ H e S) (h : H D = none) : LI K G W σ H e D W σ (upd H D (.lst [])) e S [] [] where
  a := .new h
  r := r.same (same_upd h)
  d := upd_same
  q := .nil
  z := r.zfree h
  n := r.ρfree h
  o := r.ofree h
/-- the loop has ended -/
theorem LI.fin {Wx : WX} {vs : List Nat} {Q : VK} {W0 : Wd} {H0 : Hp} (l : LI K G W1 σ H1 e1 D W (wipe σ vs) H e S acc accV) (hD : H1 D = none) (r1 : Rel K G W1 σ H1 e1 S1) (h : PostF K G Wx W1 σ H1 e1 Q (.ok acc (unwipe e1 vs e) S)) : Q (.ref D) H :=
  h W H D accV ⟨l.a.le, l.a.keep, l.a.tr, l.a.nw, l.a.zs, fun a q => l.a.ow a (owned_unwipe q)⟩ (r1.unwipe l.a.le l.r) hD l.d l.q l.z l.n fun q => l.o (owned_unwipe q)
end
/-- Prop-free end -/
abbrev noX : WX := fun _ _ _ _ => False
section
variable {G : Glb} {X : Cx} {Wx : WX} {e a b c o tg it elt tg1 it1 : Expr} {es ifs ifs1 : List Expr} {f g h : EM} {fb gb hb : BM} {pos p : Pos} {k n : Nat} {F : Fn} {x : Str}
/-- from a run of an expression to what follows -/
theorem Post.go {K : PySem.W.Frag} {α β γ : Type} {R : Wd → St → α → β → Prop} {W : Wd} {σ : St} {H : Hp} {env : Env} {Q : β → Hp → Prop} {o : Out α}
    (hx : ∀ c e S, o ≠ .exc c e S) (hs : o ≠ .stuck) (step : ∀ a e S W' H' b, o = .ok a e S → Aft W σ H env W' σ H' e → Rel K G W' σ H' e S → R W' σ a b → Q b H') : Post K G R noX W σ H env Q o := by
  cases o with
  | ok x e S => exact fun W2 H2 b a2 r2 q => step x e S W2 H2 b rfl a2 r2 q
  | exc c e S => exact (hx c e S rfl).elim
  | stuck => exact hs rfl
/-- one turn: store, tests, element -/
theorem lc_turn {K : PySem.W.Frag} {W1 W : Wd} {σ0 τ : St} {H1 H : Hp} {e1 env : Env} {S : Store} {D : Addr} {acc : List DL.D} {accV : List V} {sl vs : List Nat} {gm : GM} {d : DL.D} {x : V} {nx : Hp → Prop} {sub : Prop}
    (l : LI K G W1 σ0 H1 e1 D W τ H env S acc accV) (hsl : ∀ i ∈ sl, i ∈ vs) (hx : Rep W d x) {e2 : Env} {S2 : Store} (hg : gm d env S = .nx e2 S2) {b : Bool} {e3 : Env} {S3 : Store} (hb : fb e2 S2 = .ok b e3 S3)
    {te : Hp → St → Prop}
    (fin : ∀ W' σ' H', LI K G W1 σ0 H1 e1 D W' σ' H' e3 S3 acc accV → wipe σ' vs = wipe τ vs → Le W W' → (if b = true then te H' σ' else nx H')) :
    tG K G sl gm x τ H fun σ2 H2 => wipe σ2 vs = wipe τ vs ∧ tT K G noX fb σ2 H2 fun b H3 => if b = true then te H3 σ2 else nx H3 := by
  refine ⟨W, env, S, d, l.r, hx, ?_⟩
  rw [hg]
  intro W2 σ2 H2 A2 r2 w2
  refine ⟨w2 vs hsl, W2, e2, S2, r2, ?_⟩
  rw [hb]
  intro W3 H3 b' A3 r3 hb'
  cases (show b = b' from hb')
  exact fin W3 σ2 H3 ((l.step A2 r2).step A3 r3) (w2 vs hsl) (A2.le.trans A3.le)
theorem stuckF {K : PySem.W.Frag} {W : Wd} {σ : St} {H : Hp} {env : Env} {Q : VK} (h : PostF K G Wx W σ H env Q .stuck) : False := h
def lcWish (K : PySem.W.Frag) (G : Glb) (Wx : WX) (vs : List Nat) (W1 : Wd) (σ : St) (H1 : Hp) (e1 : Env) (Q : VK) (o : Out (List DL.D)) : Prop := PostF K G Wx W1 σ H1 e1 Q (o.bind fun xs e' S => .ok xs (unwipe e1 vs e') S)
theorem lc_body {K : PySem.W.Frag} {W1 : Wd} {σ : St} {H1 : Hp} {e1 : Env} {S1 : Store} {vs sl : List Nat} {gm : GM} {s : Src} {J : It} {Q : VK} (r1 : Rel K G W1 σ H1 e1 S1) (hJ : ItR K G W1 J s) (hsl : ∀ i ∈ sl, i ∈ vs) (hn : s.items.length ≤ 16777216)
    (h : lcWish K G Wx vs W1 σ H1 e1 Q (lcT s.dyn vs gm fb f s.items [] (wipes vs e1) S1)) (D : Addr) (hD : H1 D = none) :
    ∃ Wi : Nat → Nat → Hp → Prop, (∃ m, Wi 0 m (upd H1 D (.lst []))) ∧ ∀ i m H, Wi i m H →
      (J.stop i H ∧ Q (.ref D) H) ∨ (J.go i H ∧ ∃ Nx : Hp → Prop, (∀ H', Nx H' → ∃ m', m' < m ∧ Wi (i + 1) m' H') ∧ ∀ x H', J.yld i H x H' → tG K G sl gm x (wipe σ vs) H' fun σ2 H2 => wipe σ2 vs = wipe σ vs ∧ tT K G noX fb σ2 H2 fun b H3 =>
        if b = true then tP K G noX f σ2 H3 fun y H4 => ∃ acc, H4 D = some (.lst acc) ∧ acc.length < sizeLine ∧ Nx (upd H4 D (.lst (acc ++ [y]))) else Nx H3) := by
  have idem : wipe (wipe σ vs) vs = wipe σ vs := wipe_sub fun i m => m
  refine ⟨fun i m H => i ≤ s.items.length ∧ m = s.items.length - i ∧ ∃ W e S acc accV, LI K G W1 σ H1 e1 D W (wipe σ vs) H e S acc accV ∧ acc.length ≤ i ∧ lcWish K G Wx vs W1 σ H1 e1 Q (lcT s.dyn vs gm fb f (s.items.drop i) acc e S),
    ⟨s.items.length, Nat.zero_le _, by simp, W1, wipes vs e1, S1, [], [], (LI.start r1 hD).wipes vs, Nat.le_refl _, by simpa using h⟩, ?_⟩
  rintro i m H ⟨hi, rfl, W, e, S, acc, accV, l, la, h⟩
  by_cases hlt : i < s.items.length
  · rw [List.drop_eq_getElem_cons hlt] at h
    unfold lcT at h
    by_cases hst : still s.dyn S = true
    · rw [if_pos hst] at h
      obtain ⟨go, yl⟩ := (hJ W (wipe σ vs) H e S l.a.le l.r hst i).1 s.items[i] (List.getElem?_eq_getElem hlt)
      refine .inr ⟨go, fun H' => ∃ W e S acc accV, LI K G W1 σ H1 e1 D W (wipe σ vs) H' e S acc accV ∧ acc.length ≤ i + 1 ∧ lcWish K G Wx vs W1 σ H1 e1 Q (lcT s.dyn vs gm fb f (s.items.drop (i + 1)) acc e S),
        fun H' q => ⟨s.items.length - (i + 1), by omega, by omega, rfl, q⟩, fun x H' hy => ?_⟩
      obtain ⟨W3, A3, r3, rep⟩ := yl x H' hy
      have l3 := l.step A3 r3
      cases hgo : gm s.items[i] e S with
      | nx e2 S2 =>
        rw [hgo] at h
        dsimp only at h
        cases hbo : fb e2 S2 with
        | ok b e4 S4 =>
          rw [hbo] at h
          dsimp only at h
          have z := lc_turn (fb := fb) (sub := True) l3 hsl rep hgo hbo (te := fun H3 σ2 => tP K G noX f σ2 H3 fun y H4 => ∃ acc, H4 D = some (.lst acc) ∧ acc.length < sizeLine ∧ (fun H' => ∃ W e S acc accV, LI K G W1 σ H1 e1 D W (wipe σ vs) H' e S acc accV ∧ acc.length ≤ i + 1 ∧ lcWish K G Wx vs W1 σ H1 e1 Q (lcT s.dyn vs gm fb f (s.items.drop (i + 1)) acc e S)) (upd H4 D (.lst (acc ++ [y]))))
            (nx := fun H' => ∃ W e S acc accV, LI K G W1 σ H1 e1 D W (wipe σ vs) H' e S acc accV ∧ acc.length ≤ i + 1 ∧ lcWish K G Wx vs W1 σ H1 e1 Q (lcT s.dyn vs gm fb f (s.items.drop (i + 1)) acc e S)) (fun W4 σ4 H4 l4 w4 _ => ?_)
          · rw [idem] at z; exact z
          · rw [idem] at w4
            cases b with
            | true =>
              rw [if_pos rfl] at h ⊢
              refine ⟨W4, e4, S4, l4.r, ?_⟩
              cases hfo : f e4 S4 with
              | ok y e5 S5 =>
                rw [hfo] at h
                intro W5 H5 v A5 r5 q5
                have l5 := l4.step A5 r5
                have l6 := l5.push hD (show Rep W5 y v from q5)
                refine ⟨accV, l5.d, by rw [← l5.q.length, size_line]; omega, W5, wipes vs e5, S5, acc ++ [y], accV ++ [v], ?_, by rw [List.length_append, List.length_singleton]; omega, h⟩
                rw [← w4]; exact l6.wipes vs
              | exc c e5 S5 => rw [hfo] at h; exact (stuckF h).elim
              | stuck => rw [hfo] at h; exact (stuckF h).elim
            | false =>
              rw [if_neg (by decide)] at h ⊢
              refine ⟨W4, wipes vs e4, S4, acc, accV, ?_, by omega, h⟩
              rw [← w4]; exact l4.wipes vs
        | exc c e4 S4 => rw [hbo] at h; exact (stuckF h).elim
        | stuck => rw [hbo] at h; exact (stuckF h).elim
      | _ => rw [hgo] at h; exact (stuckF h).elim
    · rw [if_neg hst] at h; exact (stuckF h).elim
  · have ei : i = s.items.length := by omega
    subst ei
    rw [List.drop_length] at h
    unfold lcT at h
    by_cases hst : still s.dyn S = true
    · rw [if_pos hst] at h
      exact .inl ⟨(hJ W (wipe σ vs) H e S l.a.le l.r hst _).2 rfl, l.fin (W0 := W) (H0 := H) hD r1 h⟩
    · rw [if_neg hst] at h; exact (stuckF h).elim
variable {scope : Scope} {own : List (Str × Nat)} {sl sl1 vs1 : List Nat} {im im1 : IM} {gm gm1 : GM} {kk : Pos}
abbrev BX (X : Cx) (scope : Scope) (s : Shared) (H : Hp) (C : Addr) (cl : List (Str × Addr)) (fp : List Addr) : Cx := X.blk s H scope (compEnvC scope cl C X.env) fp
/-- what the block has: by rules -/
structure Blk (G : Glb) (X : Cx) (scope : Scope) (tg : Expr) (sl : List Nat) (gm : GM) (ifs : List Expr) (fb : BM) (elt : Expr) (f : EM) : Prop where
  g : ∀ s H C cl fp, DG G (BX X scope s H C cl fp) tg sl gm
  t : ∀ s H C cl fp, DTs G (BX X scope s H C cl fp) noX ifs fb
  e : ∀ s H C cl fp, DP G (BX X scope s H C cl fp) noX elt f
theorem lc_sem {vs : List Nat} {K : PySem.W.Frag} {W : Wd} {σ : St} {H : Hp} {env : Env} {S : Store} {Q : VK} (hsl : ∀ i ∈ sl, i ∈ vs) {ti : TI} (q : ∀ W σ H env S (R : It → Hp → Prop), Rel K G W σ H env S → Post K G (RI K G) Wx W σ H env R (im env S) → ti σ H R)
    (r : Rel K G W σ H env S) (h : PostF K G Wx W σ H env Q (lLc vs im gm fb f env S)) : tLc ti (tG K G sl gm) (tT K G noX fb) (tP K G noX f) vs σ H Q := by
  refine q W σ H env S _ r (Post.seqF h fun s e1 S1 W1 H1 J A1 r1 hJ h1 => ?_)
  have h1 : PostF K G Wx W1 σ H1 e1 Q (if s.items.length ≤ 16777216 then (lcT s.dyn vs gm fb f s.items [] (wipes vs e1) S1).bind fun xs e' S => .ok xs (unwipe e1 vs e') S else .stuck) := h1
  split at h1
  · rename_i hn
    exact fun D hD => lc_body r1 hJ hsl hn h1 D hD
  · exact (stuckF h1).elim
theorem df_lc (hc : X.calm = true) (hN : X.N.Nodup) (hi : DI G X Wx tg it im) (ok : BlkOk X.N X.env.scope scope own) (B : Blk G X scope tg sl gm ifs fb elt f) (hsl : ∀ i ∈ sl, i ∈ own.map (·.2))
    (hs : ∀ x, foldedSetIterable it X.env x = pure x := by intro _; rfl) : DF G X Wx (.ListComp elt [⟨tg, it, ifs, 0⟩] scope pos) (lLc (own.map (·.2)) im gm fb f) := by
  obtain ⟨ti, pi, q⟩ := hi
  exact ⟨_, pe_lc (g := tG X.K G sl gm) (tt := tT X.K G noX fb) (te := tP X.K G noX f) hc hN pi ok B.g B.t (fun s H C cl fp => (B.e s H C cl fp).can) hs, fun W σ H env S Q r h => lc_sem hsl q r h⟩
theorem lc_store {t : TE} {fl : LM} {i : Nat} {y : Str} {py : Pos} {rhs : Expr} (ps : PS X (.Assign [.Name y py] rhs pos) (tAsg t (L2.gName i)))
    (q : ∀ W σ H env S Q, Rel X.K G W σ H env S → PostF X.K G Wx W σ H env Q (fl env S) → t σ H Q) : DS G X Wx (.Assign [.Name y py] rhs pos) (sOwn i fl) := by
  refine ⟨_, ps, fun W σ H env S Dn r h => q W σ H env S _ r ?_⟩
  unfold sOwn at h
  cases hf : fl env S with
  | ok xs e1 S1 =>
    rw [hf] at h
    intro W1 H1 a vs A r1 h0 h1 h2 h3 h4 h5
    refine h W1 _ H1 ⟨A.le, A.keep, A.tr, A.nw, A.zs, fun b hb => ?_⟩ (r1.storeOwn h1 h2 h3 h4 h5 i)
    rcases owned_own hb with z | z
    · rw [z]; exact .inr h0
    · exact A.ow b z
  | exc c e1 S1 => rw [hf] at h; exact fun W1 H1 A r1 => h W1 σ H1 A r1
  | stuck => rw [hf] at h; exact h
/-- x = [..] on one line: a list of its own -/
theorem ds_ownLc {i : Nat} {y : Str} {py : Pos} {spos : Pos} (hc : X.calm = true) (hN : X.N.Nodup) (hi : DI G X Wx tg it im) (ok : BlkOk X.N X.env.scope scope own) (B : Blk G X scope tg sl gm ifs fb elt f) (hsl : ∀ i ∈ sl, i ∈ own.map (·.2))
    (hy : X.N[i]? = some y := by rfl) (hyl : X.env.scope.names.lookup y = some .local := by rfl) (hsw : swapsWith (.ListComp elt [⟨tg, it, ifs, 0⟩] scope pos) (some (.Name y py)) spos.line X.env = pure true := by exact sw_true rfl rfl rfl rfl)
    (hs : ∀ x, foldedSetIterable it X.env x = pure x := by intro _; rfl) : DS G X Wx (.Assign [.Name y py] (.ListComp elt [⟨tg, it, ifs, 0⟩] scope pos) spos) (sOwn i (lLc (own.map (·.2)) im gm fb f)) := by
  obtain ⟨ti, pi, q⟩ := hi
  exact lc_store (ps_setLc (g := tG X.K G sl gm) (tt := tT X.K G noX fb) (te := tP X.K G noX f) hc hN hy hyl hsw pi ok B.g B.t (fun s H C cl fp => (B.e s H C cl fp).can) hs) fun W σ H env S Q r h => lc_sem hsl q r h
end
end DL

set_option Elab.async false
set_option linter.all false
set_option maxRecDepth 100000
set_option maxHeartbeats 4000000
namespace DL
open PySem PySem.Spec PyProof.Rows L2
/-! ## comprehensions of two clauses -/
section
variable {G : Glb} {X : Cx} {Wx : WX} {e a b c o tg it elt tg1 it1 : Expr} {es ifs ifs1 : List Expr} {f g h : EM} {fb fb1 gb hb : BM} {pos p : Pos} {k n : Nat} {F : Fn} {x : Str}
/-- the inner loop: ctx is what it is all for -/
theorem lc_inner {K : PySem.W.Frag} {W1 W0 : Wd} {σ σ2 : St} {H1 : Hp} {e1 : Env} {vs1 vs sl : List Nat} {gm : GM} {s : Src} {J : It} {D : Addr} (hD : H1 D = none) (hJ : ItR K G W0 J s) (hsl : ∀ i ∈ sl, i ∈ vs1)
    {ctx : List DL.D → Env → Store → Prop} {nx : Hp → Prop} {acc0 : List DL.D} {accV0 : List V} {e0 : Env} {S0 : Store} {H0 : Hp}
    (start : LI K G W1 (wipe σ vs) H1 e1 D W0 σ2 H0 e0 S0 acc0 accV0)
    (h : match lcT1 s.dyn vs1 gm fb f s.items acc0 (wipes vs1 e0) S0 with | .ok acc e S => ctx acc e S | _ => False)
    (fin : ∀ W H acc accV e S, LI K G W1 (wipe σ vs) H1 e1 D W (wipe σ2 vs1) H e S acc accV → ctx acc e S → nx H) :
    ∃ Wi : Nat → Nat → Hp → Prop, (∃ m, Wi 0 m H0) ∧ ∀ i m H, Wi i m H →
      (J.stop i H ∧ nx H) ∨ (J.go i H ∧ ∃ Nx : Hp → Prop, (∀ H', Nx H' → ∃ m', m' < m ∧ Wi (i + 1) m' H') ∧ ∀ x H', J.yld i H x H' → tG K G sl gm x (wipe σ2 vs1) H' fun σ3 H2 => wipe σ3 vs1 = wipe σ2 vs1 ∧ tT K G noX fb σ3 H2 fun b H3 =>
        if b = true then tP K G noX f σ3 H3 fun y H4 => ∃ acc, H4 D = some (.lst acc) ∧ acc.length < sizeLine ∧ Nx (upd H4 D (.lst (acc ++ [y]))) else Nx H3) := by
  have idem : wipe (wipe σ2 vs1) vs1 = wipe σ2 vs1 := wipe_sub fun i m => m
  refine ⟨fun i m H => i ≤ s.items.length ∧ m = s.items.length - i ∧ ∃ W e S acc accV, Le W0 W ∧ LI K G W1 (wipe σ vs) H1 e1 D W (wipe σ2 vs1) H e S acc accV ∧ (match lcT1 s.dyn vs1 gm fb f (s.items.drop i) acc e S with | .ok acc e S => ctx acc e S | _ => False),
    ⟨s.items.length, Nat.zero_le _, by simp, W0, wipes vs1 e0, S0, acc0, accV0, .refl W0, start.wipes vs1, by simpa using h⟩, ?_⟩
  rintro i m H ⟨hi, rfl, W, e, S, acc, accV, le, l, h⟩
  by_cases hlt : i < s.items.length
  · rw [List.drop_eq_getElem_cons hlt] at h
    unfold lcT1 at h
    by_cases hst : still s.dyn S = true
    · rw [if_pos hst] at h
      obtain ⟨go, yl⟩ := (hJ W (wipe σ2 vs1) H e S le l.r hst i).1 s.items[i] (List.getElem?_eq_getElem hlt)
      refine .inr ⟨go, fun H' => ∃ W e S acc accV, Le W0 W ∧ LI K G W1 (wipe σ vs) H1 e1 D W (wipe σ2 vs1) H' e S acc accV ∧ (match lcT1 s.dyn vs1 gm fb f (s.items.drop (i + 1)) acc e S with | .ok acc e S => ctx acc e S | _ => False),
        fun H' q => ⟨s.items.length - (i + 1), by omega, by omega, rfl, q⟩, fun x H' hy => ?_⟩
      obtain ⟨W3, A3, r3, rep⟩ := yl x H' hy
      have l3 := l.step A3 r3
      cases hgo : gm s.items[i] e S with
      | nx e2 S2 =>
        rw [hgo] at h
        dsimp only at h
        cases hbo : fb e2 S2 with
        | ok b e4 S4 =>
          rw [hbo] at h
          dsimp only at h
          have z := lc_turn (fb := fb) (sub := True) l3 hsl rep hgo hbo (te := fun H3 σ3 => tP K G noX f σ3 H3 fun y H4 => ∃ acc, H4 D = some (.lst acc) ∧ acc.length < sizeLine ∧ (fun H' => ∃ W e S acc accV, Le W0 W ∧ LI K G W1 (wipe σ vs) H1 e1 D W (wipe σ2 vs1) H' e S acc accV ∧ (match lcT1 s.dyn vs1 gm fb f (s.items.drop (i + 1)) acc e S with | .ok acc e S => ctx acc e S | _ => False)) (upd H4 D (.lst (acc ++ [y]))))
            (nx := fun H' => ∃ W e S acc accV, Le W0 W ∧ LI K G W1 (wipe σ vs) H1 e1 D W (wipe σ2 vs1) H' e S acc accV ∧ (match lcT1 s.dyn vs1 gm fb f (s.items.drop (i + 1)) acc e S with | .ok acc e S => ctx acc e S | _ => False)) (fun W4 σ4 H4 l4 w4 le4 => ?_)
          · rw [idem] at z; exact z
          · rw [idem] at w4
            have le4 := (le.trans A3.le).trans le4
            cases b with
            | true =>
              rw [if_pos rfl] at h ⊢
              refine ⟨W4, e4, S4, l4.r, ?_⟩
              cases hfo : f e4 S4 with
              | ok y e5 S5 =>
                rw [hfo] at h
                dsimp only at h
                by_cases hl : acc.length < 16777216
                · rw [if_pos hl] at h
                  intro W5 H5 v A5 r5 q5
                  have l5 := l4.step A5 r5
                  have l6 := l5.push hD (show Rep W5 y v from q5)
                  refine ⟨accV, l5.d, by rw [← l5.q.length, size_line]; exact hl, W5, wipes vs1 e5, S5, acc ++ [y], accV ++ [v], le4.trans A5.le, ?_, h⟩
                  rw [← w4]; exact l6.wipes vs1
                · rw [if_neg hl] at h; exact h.elim
              | exc c e5 S5 => rw [hfo] at h; exact h.elim
              | stuck => rw [hfo] at h; exact h.elim
            | false =>
              rw [if_neg (by decide)] at h ⊢
              refine ⟨W4, wipes vs1 e4, S4, acc, accV, le4, ?_, h⟩
              rw [← w4]; exact l4.wipes vs1
        | exc c e4 S4 => rw [hbo] at h; exact h.elim
        | stuck => rw [hbo] at h; exact h.elim
      | _ => rw [hgo] at h; exact h.elim
    · rw [if_neg hst] at h; exact h.elim
  · have ei : i = s.items.length := by omega
    subst ei
    rw [List.drop_length] at h
    unfold lcT1 at h
    by_cases hst : still s.dyn S = true
    · rw [if_pos hst] at h
      exact .inl ⟨(hJ W (wipe σ2 vs1) H e S le l.r hst _).2 rfl, fin W H acc accV e S l h⟩
    · rw [if_neg hst] at h; exact h.elim
theorem lcT1_inv {dyn : List (Nat × List DL.D)} {vs : List Nat} {g : GM} {t : BM} {f : EM} : ∀ (ds acc : List DL.D) (e : Env) (S : Store) (c : Nat) (e' : Env) (S' : Store), lcT1 dyn vs g t f ds acc e S ≠ .exc c e' S'
  | [], acc, e, S, c, e', S' => by unfold lcT1; split <;> exact nofun
  | d :: ds, acc, e, S, c, e', S' => by
    unfold lcT1
    split
    · split
      · split
        · split
          · split
            · split
              · exact lcT1_inv ds _ _ _ _ _ _
              · exact nofun
            · exact nofun
          · exact lcT1_inv ds _ _ _ _ _ _
        · exact nofun
      · exact nofun
    · exact nofun
theorem lc_body2 {K : PySem.W.Frag} {W1 : Wd} {σ : St} {H1 : Hp} {e1 : Env} {S1 : Store} {vs vs1 sl sl1 : List Nat} {gm gm1 : GM} {im1 : IM} {s : Src} {J : It} {Q : VK} {wi1 : TI} (r1 : Rel K G W1 σ H1 e1 S1) (hJ : ItR K G W1 J s) (hsl : ∀ i ∈ sl, i ∈ vs) (hsl1 : ∀ i ∈ sl1, i ∈ vs1) (hv : ∀ i ∈ vs1, i ∈ vs)
    (q1 : ∀ W σ H env S (R : It → Hp → Prop), Rel K G W σ H env S → Post K G (RI K G) noX W σ H env R (im1 env S) → wi1 σ H R)
    (h : lcWish K G Wx vs W1 σ H1 e1 Q (lcT2 s.dyn vs vs1 gm fb im1 gm1 fb1 f s.items [] (wipes vs e1) S1)) (D : Addr) (hD : H1 D = none) :
    ∃ Wi : Nat → Nat → Hp → Prop, (∃ m, Wi 0 m (upd H1 D (.lst []))) ∧ ∀ i m H, Wi i m H →
      (J.stop i H ∧ Q (.ref D) H) ∨ (J.go i H ∧ ∃ Nx : Hp → Prop, (∀ H', Nx H' → ∃ m', m' < m ∧ Wi (i + 1) m' H') ∧ ∀ x H', J.yld i H x H' → tG K G sl gm x (wipe σ vs) H' fun σ2 H2 => wipe σ2 vs = wipe σ vs ∧ tT K G noX fb σ2 H2 fun b H3 =>
        if b = true then wi1 σ2 H3 fun J1 H4 => ∃ W1 : Nat → Nat → Hp → Prop, (∃ m, W1 0 m H4) ∧ ∀ j k H, W1 j k H →
          (J1.stop j H ∧ Nx H) ∨ (J1.go j H ∧ ∃ Nx1 : Hp → Prop, (∀ H', Nx1 H' → ∃ k', k' < k ∧ W1 (j + 1) k' H') ∧ ∀ x H', J1.yld j H x H' → tG K G sl1 gm1 x (wipe σ2 vs1) H' fun σ3 H5 => wipe σ3 vs1 = wipe σ2 vs1 ∧ tT K G noX fb1 σ3 H5 fun b H6 =>
            if b = true then tP K G noX f σ3 H6 fun y H7 => ∃ acc, H7 D = some (.lst acc) ∧ acc.length < sizeLine ∧ Nx1 (upd H7 D (.lst (acc ++ [y]))) else Nx1 H6)
        else Nx H3) := by
  have idem : wipe (wipe σ vs) vs = wipe σ vs := wipe_sub fun i m => m
  refine ⟨fun i m H => i ≤ s.items.length ∧ m = s.items.length - i ∧ ∃ W e S acc accV, LI K G W1 σ H1 e1 D W (wipe σ vs) H e S acc accV ∧ lcWish K G Wx vs W1 σ H1 e1 Q (lcT2 s.dyn vs vs1 gm fb im1 gm1 fb1 f (s.items.drop i) acc e S),
    ⟨s.items.length, Nat.zero_le _, by simp, W1, wipes vs e1, S1, [], [], (LI.start r1 hD).wipes vs, by simpa using h⟩, ?_⟩
  rintro i m H ⟨hi, rfl, W, e, S, acc, accV, l, h⟩
  by_cases hlt : i < s.items.length
  · rw [List.drop_eq_getElem_cons hlt] at h
    unfold lcT2 at h
    by_cases hst : still s.dyn S = true
    · rw [if_pos hst] at h
      obtain ⟨go, yl⟩ := (hJ W (wipe σ vs) H e S l.a.le l.r hst i).1 s.items[i] (List.getElem?_eq_getElem hlt)
      generalize hNx : (fun H' => ∃ W e S acc accV, LI K G W1 σ H1 e1 D W (wipe σ vs) H' e S acc accV ∧ lcWish K G Wx vs W1 σ H1 e1 Q (lcT2 s.dyn vs vs1 gm fb im1 gm1 fb1 f (s.items.drop (i + 1)) acc e S)) = NX
      have hNx' : ∀ H', (∃ W e S acc accV, LI K G W1 σ H1 e1 D W (wipe σ vs) H' e S acc accV ∧ lcWish K G Wx vs W1 σ H1 e1 Q (lcT2 s.dyn vs vs1 gm fb im1 gm1 fb1 f (s.items.drop (i + 1)) acc e S)) → NX H' := fun H' q => by rw [← hNx]; exact q
      refine .inr ⟨go, NX, fun H' q => ⟨s.items.length - (i + 1), by omega, by omega, rfl, by rw [← hNx] at q; exact q⟩, fun x H' hy => ?_⟩
      obtain ⟨W3, A3, r3, rep⟩ := yl x H' hy
      have l3 := l.step A3 r3
      cases hgo : gm s.items[i] e S with
      | nx e2 S2 =>
        rw [hgo] at h
        dsimp only at h
        cases hbo : fb e2 S2 with
        | ok b e4 S4 =>
          rw [hbo] at h
          dsimp only at h
          have z := lc_turn (fb := fb) (sub := True) l3 hsl rep hgo hbo (nx := NX) (te := fun H3 σ2 => wi1 σ2 H3 fun J1 H4 => ∃ W1 : Nat → Nat → Hp → Prop, (∃ m, W1 0 m H4) ∧ ∀ j k H, W1 j k H →
            (J1.stop j H ∧ NX H) ∨ (J1.go j H ∧ ∃ Nx1 : Hp → Prop, (∀ H', Nx1 H' → ∃ k', k' < k ∧ W1 (j + 1) k' H') ∧ ∀ x H', J1.yld j H x H' → tG K G sl1 gm1 x (wipe σ2 vs1) H' fun σ3 H5 => wipe σ3 vs1 = wipe σ2 vs1 ∧ tT K G noX fb1 σ3 H5 fun b H6 =>
              if b = true then tP K G noX f σ3 H6 fun y H7 => ∃ acc, H7 D = some (.lst acc) ∧ acc.length < sizeLine ∧ Nx1 (upd H7 D (.lst (acc ++ [y]))) else Nx1 H6)) (fun W4 σ4 H4 l4 w4 _ => ?_)
          · rw [idem] at z; exact z
          · rw [idem] at w4
            cases b with
            | true =>
              rw [if_pos rfl] at h ⊢
              refine q1 W4 σ4 H4 e4 S4 _ l4.r ?_
              cases hio : im1 e4 S4 with
              | ok s1 e5 S5 =>
                rw [hio] at h
                dsimp only at h
                intro W5 H5 J1 A5 r5 hJ1
                have l5 := l4.step A5 r5
                -- the inner loop's own
                refine lc_inner (fb := fb1) (f := f) (σ := σ) (vs := []) (ctx := fun acc e S => lcWish K G Wx vs W1 σ H1 e1 Q (lcT2 s.dyn vs vs1 gm fb im1 gm1 fb1 f (s.items.drop (i + 1)) acc (wipes vs e) S)) (nx := NX) hD hJ1 hsl1 l5 ?_ (fun W6 H6 acc6 accV6 e6 S6 l6 c6 => hNx' H6 ?_)
                · cases hlo : lcT1 s1.dyn vs1 gm1 fb1 f s1.items acc (wipes vs1 e5) S5 with
                  | ok acc6 e6 S6 => rw [hlo] at h; exact h
                  | exc c e6 S6 => exact (lcT1_inv _ _ _ _ _ _ _ hlo).elim
                  | stuck => rw [hlo] at h; exact (stuckF h).elim
                · refine ⟨W6, wipes vs e6, S6, acc6, accV6, ?_, c6⟩
                  have l7 := l6.wipes vs
                  rw [wipe_sub hv, w4] at l7
                  exact l7
              | exc c e5 S5 => rw [hio] at h; exact (stuckF h).elim
              | stuck => rw [hio] at h; exact (stuckF h).elim
            | false =>
              rw [if_neg (by decide)] at h ⊢
              refine hNx' H4 ⟨W4, wipes vs e4, S4, acc, accV, ?_, h⟩
              rw [← w4]; exact l4.wipes vs
        | exc c e4 S4 => rw [hbo] at h; exact (stuckF h).elim
        | stuck => rw [hbo] at h; exact (stuckF h).elim
      | _ => rw [hgo] at h; exact (stuckF h).elim
    · rw [if_neg hst] at h; exact (stuckF h).elim
  · have ei : i = s.items.length := by omega
    subst ei
    rw [List.drop_length] at h
    unfold lcT2 at h
    by_cases hst : still s.dyn S = true
    · rw [if_pos hst] at h
      exact .inl ⟨(hJ W (wipe σ vs) H e S l.a.le l.r hst _).2 rfl, l.fin (W0 := W) (H0 := H) hD r1 h⟩
    · rw [if_neg hst] at h; exact (stuckF h).elim
variable {scope : Scope} {own : List (Str × Nat)} {sl sl1 vs1 : List Nat} {im im1 : IM} {gm gm1 : GM} {kk : Pos}
structure Blk2 (G : Glb) (X : Cx) (scope : Scope) (tg : Expr) (sl : List Nat) (gm : GM) (ifs : List Expr) (fb : BM) (tg1 it1 : Expr) (im1 : IM) (sl1 : List Nat) (gm1 : GM) (ifs1 : List Expr) (fb1 : BM) (elt : Expr) (f : EM) : Prop where
  g : ∀ s H C cl fp, DG G (BX X scope s H C cl fp) tg sl gm
  t : ∀ s H C cl fp, DTs G (BX X scope s H C cl fp) noX ifs fb
  i : ∀ s H C cl fp, DI G (BX X scope s H C cl fp) noX tg1 it1 im1
  g1 : ∀ s H C cl fp, DG G (BX X scope s H C cl fp) tg1 sl1 gm1
  t1 : ∀ s H C cl fp, DTs G (BX X scope s H C cl fp) noX ifs1 fb1
  e : ∀ s H C cl fp, DP G (BX X scope s H C cl fp) noX elt f
theorem lc_sem2 {vs : List Nat} {K : PySem.W.Frag} {W : Wd} {σ : St} {H : Hp} {env : Env} {S : Store} {Q : VK} (hsl : ∀ i ∈ sl, i ∈ vs) (hsl1 : ∀ i ∈ sl1, i ∈ vs1) (hv : ∀ i ∈ vs1, i ∈ vs) {ti : TI} (q : ∀ W σ H env S (R : It → Hp → Prop), Rel K G W σ H env S → Post K G (RI K G) Wx W σ H env R (im env S) → ti σ H R)
    (r : Rel K G W σ H env S) (h : PostF K G Wx W σ H env Q (lLc2 vs vs1 im gm fb im1 gm1 fb1 f env S)) : tLc2 ti (tG K G sl gm) (tT K G noX fb) (tI K G noX im1) (tG K G sl1 gm1) (tT K G noX fb1) (tP K G noX f) vs vs1 σ H Q := by
  refine q W σ H env S _ r (Post.seqF h fun s e1 S1 W1 H1 J A1 r1 hJ h1 => ?_)
  exact fun D hD => lc_body2 r1 hJ hsl hsl1 hv (fun W σ H env S R r h => ⟨W, env, S, r, h⟩) h1 D hD
theorem df_lc2 (hc : X.calm = true) (hN : X.N.Nodup) (hi : DI G X Wx tg it im) (ok : BlkOk X.N X.env.scope scope own) (B : Blk2 G X scope tg sl gm ifs fb tg1 it1 im1 sl1 gm1 ifs1 fb1 elt f) (hsl : ∀ i ∈ sl, i ∈ own.map (·.2)) (hsl1 : ∀ i ∈ sl1, i ∈ vs1) (hv : ∀ i ∈ vs1, i ∈ own.map (·.2))
    (hs : ∀ x, foldedSetIterable it X.env x = pure x := by intro _; rfl) (hs1 : ∀ env x, foldedSetIterable it1 env x = pure x := by intro _ _; rfl) : DF G X Wx (.ListComp elt [⟨tg, it, ifs, 0⟩, ⟨tg1, it1, ifs1, 0⟩] scope pos) (lLc2 (own.map (·.2)) vs1 im gm fb im1 gm1 fb1 f) := by
  obtain ⟨ti, pi, q⟩ := hi
  exact ⟨_, pe_lc2 (g := tG X.K G sl gm) (tt := tT X.K G noX fb) (wi1 := tI X.K G noX im1) (g1 := tG X.K G sl1 gm1) (tt1 := tT X.K G noX fb1) (te := tP X.K G noX f) hc hN pi ok hv B.g B.t (fun s H C cl fp => (B.i s H C cl fp).can) B.g1 B.t1 (fun s H C cl fp => (B.e s H C cl fp).can) hs hs1, fun W σ H env S Q r h => lc_sem2 hsl hsl1 hv q r h⟩
theorem ds_ownLc2 {i : Nat} {y : Str} {py : Pos} {spos : Pos} (hc : X.calm = true) (hN : X.N.Nodup) (hi : DI G X Wx tg it im) (ok : BlkOk X.N X.env.scope scope own) (B : Blk2 G X scope tg sl gm ifs fb tg1 it1 im1 sl1 gm1 ifs1 fb1 elt f) (hsl : ∀ i ∈ sl, i ∈ own.map (·.2)) (hsl1 : ∀ i ∈ sl1, i ∈ vs1) (hv : ∀ i ∈ vs1, i ∈ own.map (·.2))
    (hy : X.N[i]? = some y := by rfl) (hyl : X.env.scope.names.lookup y = some .local := by rfl) (hsw : swapsWith (.ListComp elt [⟨tg, it, ifs, 0⟩, ⟨tg1, it1, ifs1, 0⟩] scope pos) (some (.Name y py)) spos.line X.env = pure true := by exact sw_true rfl rfl rfl rfl)
    (hs : ∀ x, foldedSetIterable it X.env x = pure x := by intro _; rfl) (hs1 : ∀ env x, foldedSetIterable it1 env x = pure x := by intro _ _; rfl) : DS G X Wx (.Assign [.Name y py] (.ListComp elt [⟨tg, it, ifs, 0⟩, ⟨tg1, it1, ifs1, 0⟩] scope pos) spos) (sOwn i (lLc2 (own.map (·.2)) vs1 im gm fb im1 gm1 fb1 f)) := by
  obtain ⟨ti, pi, q⟩ := hi
  exact lc_store (ps_setLc2 (g := tG X.K G sl gm) (tt := tT X.K G noX fb) (wi1 := tI X.K G noX im1) (g1 := tG X.K G sl1 gm1) (tt1 := tT X.K G noX fb1) (te := tP X.K G noX f) hc hN hy hyl hsw pi ok hv B.g B.t (fun s H C cl fp => (B.i s H C cl fp).can) B.g1 B.t1 (fun s H C cl fp => (B.e s H C cl fp).can) hs hs1) fun W σ H env S Q r h => lc_sem2 hsl hsl1 hv q r h
end
end DL

set_option Elab.async false
set_option linter.all false
set_option maxRecDepth 100000
set_option maxHeartbeats 4000000
namespace DL
open PySem PySem.Spec PyProof.Rows L2
/-! ## order of tuples -/
theorem lexAt_le : ∀ (ns ms : List Int) (as bs : List Int) , Ob.lexAt (fun j => decide ((as ++ ns).getD j 0 = (bs ++ ms).getD j 0)) (fun j => decide ((as ++ ns).getD j 0 ≤ (bs ++ ms).getD j 0)) (decide ((as ++ ns).length ≤ (bs ++ ms).length)) as.length (min ns.length ms.length) = (if as.length = bs.length then lexLe ns ms else Ob.lexAt (fun j => decide ((as ++ ns).getD j 0 = (bs ++ ms).getD j 0)) (fun j => decide ((as ++ ns).getD j 0 ≤ (bs ++ ms).getD j 0)) (decide ((as ++ ns).length ≤ (bs ++ ms).length)) as.length (min ns.length ms.length))
  | [], ms, as, bs => by
    split
    · rename_i h
      simp [Ob.lexAt, lexLe]; omega
    · rfl
  | n :: ns, [], as, bs => by
    split
    · rename_i h
      simp [Ob.lexAt, lexLe]; omega
    · rfl
  | n :: ns, m :: ms, as, bs => by
    split
    · rename_i h
      have e1 : (as ++ n :: ns).getD as.length 0 = n := by simp [List.getD]
      have e2 : (bs ++ m :: ms).getD as.length 0 = m := by rw [h]; simp [List.getD]
      have e3 : min (n :: ns).length (m :: ms).length = min ns.length ms.length + 1   := by simp
      rw [e3, Ob.lexAt_succ]
      simp only [e1, e2]
      have ih := lexAt_le ns ms (as ++ [n]) (bs ++ [m])
      rw [if_pos (by simp [h])] at ih
      simp only [List.append_assoc, List.singleton_append, List.length_append, List.length_singleton] at ih
      unfold lexLe
      by_cases q : n = m
      · subst q
        simp only [decide_true, if_true, decide_eq_true_eq]
        rw [← ih]
        simp
      · simp [q]
    · rfl
theorem lexAt_le0 (ns ms : List Int) : Ob.lexAt (fun j => decide (ns.getD j 0 = ms.getD j 0)) (fun j => decide (ns.getD j 0 ≤ ms.getD j 0)) (decide (ns.length ≤ ms.length)) 0 (min ns.length ms.length) = lexLe ns ms := by
  have h := lexAt_le ns ms [] []
  rw [if_pos rfl] at h
  simpa using h
theorem lexAt_lt2 : ∀ (ns ms : List (List Int)) (as bs : List (List Int)) , Ob.lexAt (fun j => decide ((as ++ ns).getD j [] = (bs ++ ms).getD j [])) (fun j => lexLt ((as ++ ns).getD j []) ((bs ++ ms).getD j [])) (decide ((as ++ ns).length < (bs ++ ms).length)) as.length (min ns.length ms.length) = (if as.length = bs.length then lexLt2 ns ms else Ob.lexAt (fun j => decide ((as ++ ns).getD j [] = (bs ++ ms).getD j [])) (fun j => lexLt ((as ++ ns).getD j []) ((bs ++ ms).getD j [])) (decide ((as ++ ns).length < (bs ++ ms).length)) as.length (min ns.length ms.length))
  | [], ms, as, bs => by
    split
    · rename_i h
      cases ms <;> simp [Ob.lexAt, lexLt2] <;> omega
    · rfl
  | n :: ns, [], as, bs => by
    split
    · rename_i h
      simp [Ob.lexAt, lexLt2]; omega
    · rfl
  | n :: ns, m :: ms, as, bs => by
    split
    · rename_i h
      have e1 : (as ++ n :: ns).getD as.length [] = n := by simp [List.getD]
      have e2 : (bs ++ m :: ms).getD as.length [] = m := by rw [h]; simp [List.getD]
      have e3 : min (n :: ns).length (m :: ms).length = min ns.length ms.length + 1   := by simp
      rw [e3, Ob.lexAt_succ]
      simp only [e1, e2]
      have ih := lexAt_lt2 ns ms (as ++ [n]) (bs ++ [m])
      rw [if_pos (by simp [h])] at ih
      simp only [List.append_assoc, List.singleton_append, List.length_append, List.length_singleton] at ih
      unfold lexLt2
      by_cases q : n = m
      · subst q
        simp only [decide_true, if_true, decide_eq_true_eq]
        rw [← ih]
        simp
      · simp [q]
    · rfl
theorem lexAt_lt20 (ns ms : List (List Int)) : Ob.lexAt (fun j => decide (ns.getD j [] = ms.getD j [])) (fun j => lexLt (ns.getD j []) (ms.getD j [])) (decide (ns.length < ms.length)) 0 (min ns.length ms.length) = lexLt2 ns ms := by
  have h := lexAt_lt2 ns ms [] []
  rw [if_pos rfl] at h
  simpa using h

def rLtTT (K : PySem.W.Frag) : R2 := fun x y H Q => ∃ (a b : Addr) (as bs : List Addr) (ns ms : List (List Int)), x = .ref a ∧ y = .ref b ∧ SqT K H a (as.map V.ref) ∧ SqT K H b (bs.map V.ref) ∧ as.length = ns.length ∧ bs.length = ms.length ∧
  (∀ (j : Nat) (c : Addr) (l : List Int), as[j]? = some c → ns[j]? = some l → SqT K H c (l.map V.int)) ∧ (∀ (j : Nat) (c : Addr) (l : List Int), bs[j]? = some c → ms[j]? = some l → SqT K H c (l.map V.int)) ∧ Q (.bl (lexLt2 ns ms)) H
theorem vals_refs' : ∀ {as : List Addr} {us : List Value}, Vals (as.map V.ref) us → us = as.map Value.ref
  | [], us, h => by cases h; rfl
  | a :: as, us, h => by
    rw [List.map_cons] at h
    cases h with
    | cons r t =>
      rw [vals_refs' t, List.map_cons]
      exact congrArg (· :: _) r
theorem ints_all {s : Shared} {A : Around} {ns ms : List Int} {us ws : List Value} (h1 : IntsAre us ns) (h2 : IntsAre ws ms) : ∀ j (k1 : j < us.toArray.size) (k2 : j < ws.toArray.size), SeqAt.EqAt A s us.toArray[j] ws.toArray[j] (decide (ns.getD j 0 = ms.getD j 0)) := fun j k1 k2 => by
  obtain ⟨t, et⟩ := PyProof.Rows.IntsAre.int_at h1 j us.toArray[j] (by simp at k1; simp [k1])
  obtain ⟨t', et'⟩ := PyProof.Rows.IntsAre.int_at h2 j ws.toArray[j] (by simp at k2; simp [k2])
  rw [et, et']
  have z : (ns.getD j 0 == ms.getD j 0) = decide (ns.getD j 0 = ms.getD j 0) := by
    by_cases q : ns.getD j 0 = ms.getD j 0
    · rw [decide_eq_true q]; exact beq_iff_eq.mpr q
    · rw [decide_eq_false q]; exact beq_eq_false_iff_ne.mpr q
  rw [← z]
  exact SeqAt.EqAt.int_int _ _ _ _
theorem all_getD (ns ms : List Int) : ((List.range (min ns.length ms.length)).all (fun j => decide (ns.getD j 0 = ms.getD j 0)) && ns.length == ms.length) = decide (ns = ms) := by
  rw [Bool.eq_iff_iff]
  simp only [Bool.and_eq_true, List.all_eq_true, List.mem_range, decide_eq_true_eq, beq_iff_eq]
  constructor
  · rintro ⟨h1, h2⟩
    refine List.ext_getElem h2 fun j k1 k2 => ?_
    have := h1 j (by omega)
    simpa [List.getD, k1, k2] using this
  · rintro rfl
    simp
section
variable {G : Glb} {X : Cx}
theorem op_ltTT (hu : X.A.units + 2 < cLine) : OpR X (compareOp .Lt) (rLtTT X.K) := by
  intro pins s σ H x y v u Q I rx ry h
  obtain ⟨a, b, as, bs, ns, ms, rfl, rfl, ha, hb, la, lb, qa, qb, q⟩ := h
  cases rx
  cases ry
  obtain ⟨its, r1, p1, _⟩ := I.tuple ha
  obtain ⟨its2, r2, p2, _⟩ := I.tuple hb
  have e1 := vals_refs' r1
  have e2 := vals_refs' r2
  subst e1 e2
  have at1 : ∀ j (h1 : j < (as.map Value.ref).toArray.size), ∃ c us, (as.map Value.ref).toArray[j] = .ref c ∧ IsTup s.heap c us.toArray ∧ IntsAre us (ns.getD j []) := fun j h1 => by
    simp only [List.size_toArray, List.length_map] at h1
    obtain ⟨us, r3, p3, _⟩ := I.tuple (qa j as[j] ns[j] (List.getElem?_eq_getElem h1) (List.getElem?_eq_getElem (by omega)))
    refine ⟨as[j], us, by simp, p3, ?_⟩
    have z : ns.getD j [] = ns[j]'(by omega) := by simp [List.getD, show j < ns.length by omega]
    rw [z]; exact intsAre_of r3
  have at2 : ∀ j (h1 : j < (bs.map Value.ref).toArray.size), ∃ c us, (bs.map Value.ref).toArray[j] = .ref c ∧ IsTup s.heap c us.toArray ∧ IntsAre us (ms.getD j []) := fun j h1 => by
    simp only [List.size_toArray, List.length_map] at h1
    obtain ⟨us, r3, p3, _⟩ := I.tuple (qb j bs[j] ms[j] (List.getElem?_eq_getElem h1) (List.getElem?_eq_getElem (by omega)))
    refine ⟨bs[j], us, by simp, p3, ?_⟩
    have z : ms.getD j [] = ms[j]'(by omega) := by simp [List.getD, show j < ms.length by omega]
    rw [z]; exact intsAre_of r3
  have in1 : X.A.in1.units < cLine := Nat.lt_trans (by show X.A.units + 1 < X.A.units + 2; omega) hu
  have R := Ob.RcOp.tuples_lt (A := X.A) (s := s) (e := fun j => decide (ns.getD j [] = ms.getD j [])) (r := fun j => lexLt (ns.getD j []) (ms.getD j [])) p1 p2 (by omega) (fun j h1 h2 => by
    obtain ⟨c, us, k1, k2, k3⟩ := at1 j h1
    obtain ⟨c', us', k1', k2', k3'⟩ := at2 j h2
    rw [k1, k1']
    by_cases hcc : c = c'
    · subst hcc
      have e : ns.getD j [] = ms.getD j [] := by
        have z : us = us' := by
          obtain ⟨o, g1, g2, n, g3⟩ := k2
          obtain ⟨o', g1', g2', n', g3'⟩ := k2'
          rw [g1] at g1'; cases g1'
          rw [g3] at g3'
          cases g3'; rfl
        subst z
        have fn : ∀ {us : List Value} {a b : List Int}, IntsAre us a → IntsAre us b → a = b := by
          intro us a b ha
          induction ha generalizing b with
          | nil => intro hb; cases hb; rfl
          | cons n t h ih => intro hb; cases hb with | cons _ _ h' => rw [ih h']
        exact fn k3 k3'
      rw [decide_eq_true e]
      exact SeqAt.EqAt.same _
    · refine SeqAt.EqAt.of_refs hcc ?_
      have R := SeqAt.RcAt.tuples (A := X.A.in1) k2 k2' in1 (e := fun i => decide ((ns.getD j []).getD i 0 = (ms.getD j []).getD i 0)) (ints_all k3 k3')
      rw [List.size_toArray, List.size_toArray, k3.length, k3'.length, all_getD] at R
      exact R) (fun j h1 h2 _ => by
    obtain ⟨c, us, k1, k2, k3⟩ := at1 j h1
    obtain ⟨c', us', k1', k2', k3'⟩ := at2 j h2
    rw [k1, k1']
    intro prog w E Q hq
    refine HT.lt_tupInts k2 k2' k3 k3' in1 ?_
    rw [lexLt_eq]; exact hq)
  simp only [List.size_toArray, List.length_map] at R
  rw [la, lb, lexAt_lt20] at R
  have z : wpAny (model X.prog X.w) X.A (compareOp .Lt (.ref a) (.ref b)) (EP X pins σ Q) X.xe s := R X.prog X.w X.xe (EP X pins σ Q) ⟨.bl _, H, I, rfl, q⟩
  exact z
theorem Reps.tups {W : Wd} {H : Hp} {K : PySem.W.Frag} {σ : St} {env : Env} {S : Store} (r : Rel K G W σ H env S) : ∀ {ds : List DL.D} {vs : List V} {ns : List (List Int)}, Reps W ds vs → allTups ds = some ns →
    ∃ as : List Addr, vs = as.map V.ref ∧ as.length = ns.length ∧ ∀ (j : Nat) (c : Addr) (l : List Int), as[j]? = some c → ns[j]? = some l → SqT K H c (l.map V.int)
  | [], vs, ns, h, e => by
    cases e
    cases (show vs = [] from h)
    exact ⟨[], rfl, rfl, fun j c l h => by simp at h⟩
  | d :: ds, vs, ns, h, e => by
    obtain ⟨v, ws, rfl, h1, h2⟩ := h
    cases d with
    | tup a =>
      simp only [allTups] at e
      split at e
      · rename_i x y hx hy
        cases e
        obtain ⟨p, us, rfl, z1, z2⟩ := r.tup h1
        obtain ⟨as, rfl, g1, g2⟩ := Reps.tups r h2 hy
        have g3 := z2.ints hx
        subst g3
        refine ⟨p :: as, rfl, by simp [g1], fun j c l k1 k2 => ?_⟩
        cases j with
        | zero => simp at k1 k2; subst k1 k2; exact .of z1
        | succ j => exact g2 j c l (by simpa using k1) (by simpa using k2)
      · cases e
    | _ => simp [allTups] at e
theorem od_lt2 (hu : X.A.units + 2 < cLine) : OpD G X (compareOp .Lt) opLt2 := by
  refine ⟨_, op_lt.or ((op_ltT (by omega)).or (op_ltTT hu)), fun W σ H env S Q dx dy x y c r hx hy hk hq => ?_⟩
  unfold opLt2 at hk
  split at hk
  · rename_i i j h1 h2
    cases hk
    exact .inl ⟨i, j, r.lookI hx h1, r.lookI hy h2, fin0 r hq rfl⟩
  · rename_i a b h1 h2
    obtain ⟨p, vs, rfl, k1, k2⟩ := r.lookT hx h1
    obtain ⟨q, ws, rfl, k3, k4⟩ := r.lookT hy h2
    split at hk
    · rename_i ns ms e1 e2
      cases hk
      have g1 := k2.ints e1
      have g2 := k4.ints e2
      subst g1 g2
      refine .inr (.inl ⟨p, q, ns, ms, rfl, rfl, .of k1, .of k3, ?_⟩)
      rw [lexLt_eq]
      exact fin0 r hq rfl
    · split at hk
      · rename_i ns ms e1 e2
        cases hk
        obtain ⟨as, rfl, g1, g2⟩ := Reps.tups r k2 e1
        obtain ⟨bs, rfl, g3, g4⟩ := Reps.tups r k4 e2
        exact .inr (.inr ⟨p, q, as, bs, ns, ms, rfl, rfl, .of k1, .of k3, g1, g3, g2, g4, fin0 r hq rfl⟩)
      · cases hk
  · cases hk
theorem od_le2 (hu : X.A.units < cLine) : OpD G X (compareOp .LtE) opLe2 := by
  refine ⟨_, op_le.or (op_leT hu), fun W σ H env S Q dx dy x y c r hx hy hk hq => ?_⟩
  unfold opLe2 at hk
  split at hk
  · rename_i i j h1 h2
    cases hk
    exact .inl ⟨i, j, r.lookI hx h1, r.lookI hy h2, fin0 r hq rfl⟩
  · rename_i a b h1 h2
    split at hk
    · rename_i ns ms e1 e2
      cases hk
      obtain ⟨p, vs, rfl, k1, k2⟩ := r.lookT hx h1
      obtain ⟨q, ws, rfl, k3, k4⟩ := r.lookT hy h2
      have g1 := k2.ints e1
      have g2 := k4.ints e2
      subst g1 g2
      refine .inr ⟨p, q, ns, ms, rfl, rfl, .of k1, .of k3, ?_⟩
      rw [lexAt_le0]
      exact fin0 r hq rfl
    · cases hk
  · cases hk
end
end DL

set_option Elab.async false
set_option linter.all false
set_option maxRecDepth 100000
set_option maxHeartbeats 4000000
namespace DL
open PySem PySem.Spec PyProof.Rows L2
section
variable {G : Glb} {X : Cx} {Wx : WX} {e a b c o : Expr} {es : List Expr} {f g h : EM} {fa : AM} {fb : BM} {pos p : Pos}
/-! ## isinstance, one built-in type -/
def tyN : Ty → String
  | .non => "NoneType"
  | .bl => "bool"
  | .int => "int"
  | .str => "str"
  | .tup => "tuple"
  | .lst => "list"
theorem kit_all (c t : Ty) (h : c ≠ .non) : kitB (tyN t) (tyN c) = some (isTy c t) := by
  have : ∀ c t : Ty, c = .non ∨ kitB (tyN t) (tyN c) = some (isTy c t) := by
    intro c t
    cases c <;> cases t <;> first | exact .inl rfl | exact .inr (by decide +kernel)
  exact (this c t).resolve_left h
theorem Rel.ty {W : Wd} {σ : St} {H : Hp} {env : Env} {S : Store} (r : Rel X.K G W σ H env S) {d : DL.D} {v : V} (h : RepB W σ d v) {t : Ty} (e : tyOf (look env S d) = some t) : TyX X.K H v (.type (tyN t)) := by
  cases hd : look env S d with
  | non => rw [hd] at e; cases e; rw [r.lookN h hd]; exact .base .non
  | bl b => rw [hd] at e; cases e; rw [r.lookBl h hd]; exact .base (.bl b)
  | int b => rw [hd] at e; cases e; rw [r.lookI h hd]; exact .base (.int b)
  | str b => rw [hd] at e; cases e; rw [r.lookS h hd]; exact .base (.str _)
  | tup xs =>
    rw [hd] at e; cases e
    obtain ⟨p, vs, rfl, k1, k2⟩ := r.lookT h hd
    exact .base (.tup k1)
  | lst xs =>
    rw [hd] at e; cases e
    obtain ⟨p, vs, rfl, k1, k2⟩ := r.lookL h hd
    exact .base (.lst k1)
  | _ => rw [hd] at e; cases e
theorem dp_isi (t : Ty) {x : Str} {p2 : Pos} (ht : t ≠ .non) (hm : X.mg "isinstance" = none) (hm2 : X.mg x = none) (hv : bootBuiltins x = some (.type (tyN t))) (ha : DE G X Wx a f) (hg : Gl X "isinstance" := by rfl) (hg2 : Gl X x := by rfl) (hn : x ≠ "__name__" := by decide) (hd : (x == ("__debug__" : Str)) = false := by decide)
    (he : starEach [a, .Name x p2] X.env = (false, eval a X.env) :: starEach [.Name x p2] X.env := by rfl) (he2 : starEach [.Name x p2] X.env = (false, eval (.Name x p2) X.env) :: starEach [] X.env := by rfl) (hpl : (backTo pos (starEach [.Name x p2] X.env)).any (·.1) = false := by rfl) :
    DP G X Wx (.Call (.Name "isinstance" p) [a, .Name x p2] [] pos) (dB1 f (opIsA t)) := by
  obtain ⟨ta, pa, qa⟩ := ha
  refine ⟨_, pe_callB call_isi hg hm PyProof.Rows.boot_isinstance (pa_cons pa (pa_cons (pe_bltn (v := .ty (tyN t)) hg2 hm2 hv rfl hn hd) pa_nil he2) he) (by decide) (by decide) he hpl, fun W σ H env S Q r h => ?_⟩
  refine qa W σ H env S _ r (Post.seq h fun d1 e1 S1 W1 H1 v1 A1 r1 q1 h1 => ?_)
  have h1 : Post X.K G RP Wx W1 σ H1 e1 Q (match opIsA t (look e1 S1 d1) with | some r => .ok r e1 S1 | none => .stuck) := h1
  cases hk : opIsA t (look e1 S1 d1) with
  | none => rw [hk] at h1; exact h1.elim
  | some c =>
    rw [hk] at h1
    unfold opIsA at hk
    cases ht' : tyOf (look e1 S1 d1) with
    | none => rw [ht'] at hk; cases hk
    | some u =>
      rw [ht'] at hk
      cases hk
      exact ⟨v1, .ty (tyN t), _, _, _, rfl, .ty _, r1.ty q1 ht', kit_ty (kit_all t u ht), h1 W1 H1 _ .refl r1 rfl⟩
/-! ## slices -/
theorem cutIx_eq (n d : Nat) (o : Option Int) : HT.sIx n d o = cutIx n d o := by
  cases o with
  | none => rfl
  | some v =>
    show (if v < 0 then (v + (n : Int)).toNat else min v.toNat n) = if 0 ≤ v then min v.toNat n else (n + v).toNat
    by_cases h : v < 0
    · rw [if_pos h, if_neg (by omega)]; omega
    · rw [if_neg h, if_pos (by omega)]
theorem cutV_eq (xs : List V) (lo hi : Option Int) : cutV xs lo hi = cutD xs lo hi := by
  unfold cutV cutD
  rw [cutIx_eq, cutIx_eq]
theorem Reps.cut {W : Wd} {xs : List DL.D} {vs : List V} (h : Reps W xs vs) (lo hi : Option Int) : Reps W (cutD xs lo hi) (cutD vs lo hi) := by
  unfold cutD
  rw [h.length]
  exact (h.drop _).take _
def RO : Wd → St → Option Int → Option Int → Prop := fun _ _ a b => a = b
def DO (G : Glb) (X : Cx) (Wx : WX) (e : Option Expr) (f : OM) : Prop := ∃ t, PO X e t ∧ ∀ W σ H env S Q, Rel X.K G W σ H env S → Post X.K G RO Wx W σ H env Q (f env S) → t σ H Q
theorem do_none : DO G X Wx none oNone := ⟨_, po_none, fun W σ H env S Q r h => h W H none .refl r rfl⟩
theorem do_some (he : DP G X Wx e f) : DO G X Wx (some e) (oSome f) := by
  obtain ⟨t, pt, q⟩ := he
  refine ⟨_, po_some pt, fun W σ H env S Q r h => q W σ H env S _ r (Post.seq h fun d1 e1 S1 W1 H1 v1 A1 r1 q1 h1 => ?_)⟩
  cases d1 with
  | int i => exact ⟨i, q1, h1 W1 H1 (some i) .refl r1 rfl⟩
  | _ => exact h1.elim
theorem dp_sl {lo hi : Option Expr} {l u : OM} {p2 : Pos} (he : DE G X Wx e f) (hl : DO G X Wx lo l) (hu : DO G X Wx hi u) : DP G X Wx (.Subscript e (.Slice lo hi none p2) pos) (dSl f l u) := by
  obtain ⟨te, pe, qe⟩ := he
  obtain ⟨tl, pl, ql⟩ := hl
  obtain ⟨tu, pu, qu⟩ := hu
  refine ⟨_, pe_slice (SlR.or sl_tupA sl_list) pe pl pu, fun W σ H env S Q r h => ?_⟩
  refine qe W σ H env S _ r (Post.seq h fun d1 e1 S1 W1 H1 v1 A1 r1 q1 h1 => ?_)
  refine ql W1 σ H1 e1 S1 _ r1 (Post.seq h1 fun d2 e2 S2 W2 H2 v2 A2 r2 q2 h2 => ?_)
  refine qu W2 σ H2 e2 S2 _ r2 (Post.seq h2 fun d3 e3 S3 W3 H3 v3 A3 r3 q3 h3 => ?_)
  cases (show d2 = v2 from q2)
  cases (show d3 = v3 from q3)
  have h3 : Post X.K G RP Wx W3 σ H3 e3 Q (match opCut (look e3 S3 d1) d2 d3 with | some r => .ok r e3 S3 | none => .stuck) := h3
  have q1' := q1.mono (A2.le.trans A3.le)
  cases hk : opCut (look e3 S3 d1) d2 d3 with
  | none => rw [hk] at h3; exact h3.elim
  | some c =>
    rw [hk] at h3
    unfold opCut at hk
    split at hk
    · rename_i xs k1
      cases hk
      obtain ⟨p, vs, rfl, g1, g2, g3⟩ := r3.lookTZ q1' k1
      refine .inl ⟨p, vs, rfl, .of g1, fun ⟨z1, z2⟩ => ?_, fun _ q hq => ?_⟩
      · rw [cutIx_eq] at z1 z2
        have ec : cutD xs d2 d3 = xs := by
          unfold cutD
          rw [g2.length, z1, z2]
          simp [← g2.length]
        rw [ec] at h3
        exact h3 W3 H3 _ .refl r3 g3
      · rw [cutV_eq]
        exact finT r3 (fun W' H' v A' r' q' => h3 W' H' v A' r' q') (g2.cut d2 d3) q hq
    · rename_i xs k1
      cases hk
      obtain ⟨p, vs, rfl, g1, g2⟩ := r3.lookL q1' k1
      refine .inr ⟨p, vs, rfl, .of g1, fun q hq => ?_⟩
      rw [cutV_eq]
      exact finL r3 (fun W' H' v A' r' q' => h3 W' H' v A' r' q') (g2.cut d2 d3) q hq
    · rename_i xs k1
      cases hk
      obtain ⟨p, vs, rfl, g1, g2⟩ := r3.lookC q1' k1
      refine .inr ⟨p, vs, rfl, g1, fun q hq => ?_⟩
      rw [cutV_eq]
      exact finL r3 (fun W' H' v A' r' q' => h3 W' H' v A' r' q') (g2.cut d2 d3) q hq
    · cases hk
/-! ## stores -/
theorem placeOf_eq (n : Nat) (i : Int) : L2.ixN n i = placeOf n i := by
  unfold L2.ixN placeOf
  split
  · rfl
  · split
    · rw [Int.add_comm]
    · rfl
theorem dg_sub (hf : DE G X noX o f) (hg : DP G X noX e g)
    (ha : ∀ v, assign (.Subscript o e pos) X.env v = (do
      let ov ← holding [v] (eval o X.env)
      let iv ← holding [v, ov] (eval e X.env)
      standAt pos
      holding [v, ov, iv] (setItem ov iv v)
      release [v, ov, iv] []) := by intro _; rfl) : DG G X (.Subscript o e pos) [] (DL.gSub f g) := by
  obtain ⟨to, po, qo⟩ := hf
  obtain ⟨ti, pi, qi⟩ := hg
  refine PG.imp (pg_sub po pi set_list ha) fun v σ H Q ⟨W, env, S, d, r, q, h⟩ => ?_
  refine qo W σ H env S _ r ?_
  unfold DL.gSub at h
  cases hf : f env S with
  | ok d1 e1 S1 =>
    rw [hf] at h
    intro W1 H1 v1 A1 r1 q1
    refine qi W1 σ H1 e1 S1 _ r1 ?_
    dsimp only at h
    cases hg : g e1 S1 with
    | ok d2 e2 S2 =>
      rw [hg] at h
      intro W2 H2 v2 A2 r2 q2
      cases d2 with
      | int k =>
        cases (show v2 = V.int k from q2)
        have qd := q.mono (A1.le.trans A2.le)
        have qo := RepB.mono A2.le q1
        dsimp only at h
        unfold putAt at h
        split at h
        · rename_i i
          split at h
          · rename_i xs hx
            split at h
            · rename_i j hj
              obtain ⟨a, vs, k1, k2, k3, k4, k5⟩ := r2.ow i xs hx
              have qo' : σ[i]? = some (some v1) := qo
              rw [k1] at qo'
              cases qo'
              refine ⟨a, vs, k, j, rfl, rfl, k2, by rw [placeOf_eq, ← k3.length]; exact hj, ?_⟩
              exact h W2 σ _ ((A1.trans A2).trans (.mutOwn hx k1)) (r2.mutOwn hx k1 (k3.set qd j)) fun vs _ => rfl
            · exact h.elim
          · exact h.elim
        · rename_i n
          split at h
          · rename_i xs hx
            split at h
            · rename_i j hj
              obtain ⟨a, rfl, hn⟩ := qo
              obtain ⟨a', g1, vs, g2, g3⟩ := r2.st n _ hx
              rw [hn] at g1; cases g1
              refine ⟨a, vs, k, j, rfl, rfl, g2, by rw [placeOf_eq, ← g3.length]; exact hj, ?_⟩
              exact h W2 σ _ ((A1.trans A2).trans (.mutSt hn)) (r2.mutSt hn ⟨_, upd_same, g3.set qd j⟩) fun vs _ => rfl
            · exact h.elim
          · exact h.elim
        · exact h.elim
      | _ => exact h.elim
    | exc c e2 S2 => rw [hg] at h; exact h.elim
    | stuck => rw [hg] at h; exact h.elim
  | exc c e1 S1 => rw [hf] at h; exact h.elim
  | stuck => rw [hf] at h; exact h.elim
/-! ## a, b = c, d -/
theorem Aft.store2 {W : Wd} {σ : St} {H : Hp} {env : Env} {i j : Nat} {o o' : Option V} {x x' : DL.D} : Aft W σ H env W ((σ.set i o).set j o') H ((env.set i (.val x)).set j (.val x')) := Aft.trans .store .store
theorem ds_par2 {i j : Nat} {x y : Str} {px py pt : Pos} {kt k2 pt2} (hc : X.calm = true) (hN : X.N.Nodup) (ha : DA G X Wx [a, b] fa) (hi : X.N[i]? = some x := by rfl) (hj : X.N[j]? = some y := by rfl) (hij : i ≠ j := by decide)
    (hx : X.env.scope.names.lookup x = some .local := by rfl) (hy : X.env.scope.names.lookup y = some .local := by rfl)
    (hw : swappedStores [.Tuple [.Name x px, .Name y py] kt pt] (.Tuple [a, b] k2 pt2) X.env = pure (some [x, y]) := by rfl)
    (hs : swapsWithSole [.Tuple [.Name x px, .Name y py] kt pt] (.Tuple [a, b] k2 pt2) pos.line X.env = pure false := by rfl) :
    DS G X Wx (.Assign [.Tuple [.Name x px, .Name y py] kt pt] (.Tuple [a, b] k2 pt2) pos) (sPar2 i j fa) := by
  obtain ⟨len, t, pt, q⟩ := ha
  refine ⟨_, ps_par hc hN hi hj hij hx hy pt hw hs, fun W σ H env S Dn r h => q W σ H env S _ r (SPost.head h fun ds e1 S1 W1 H1 vs A r1 hx h1 => ?_)⟩
  cases ds with
  | nil => exact h1.elim
  | cons d1 ds =>
    cases ds with
    | nil => exact h1.elim
    | cons d2 ds =>
      cases ds with
      | cons d3 ds => exact h1.elim
      | nil =>
        obtain ⟨u1, us, rfl, z1, u2, us', rfl, z2, e⟩ := hx
        cases (show us' = [] from e)
        exact ⟨u1, u2, rfl, h1 W1 _ H1 .store2 ((r1.store z1 i).store z2 j)⟩
theorem ds_par3 {i j l : Nat} {x y z : Str} {d : Expr} {px py pz pt : Pos} {kt k2 pt2} (hc : X.calm = true) (hN : X.N.Nodup) (ha : DA G X Wx [a, b, d] fa) (hi : X.N[i]? = some x := by rfl) (hj : X.N[j]? = some y := by rfl) (hl : X.N[l]? = some z := by rfl) (hij : i ≠ j := by decide) (hil : i ≠ l := by decide) (hjl : j ≠ l := by decide)
    (hx : X.env.scope.names.lookup x = some .local := by rfl) (hy : X.env.scope.names.lookup y = some .local := by rfl) (hz : X.env.scope.names.lookup z = some .local := by rfl)
    (hw : swappedStores [.Tuple [.Name x px, .Name y py, .Name z pz] kt pt] (.Tuple [a, b, d] k2 pt2) X.env = pure (some [x, y, z]) := by rfl)
    (hs : swapsWithSole [.Tuple [.Name x px, .Name y py, .Name z pz] kt pt] (.Tuple [a, b, d] k2 pt2) pos.line X.env = pure false := by rfl) :
    DS G X Wx (.Assign [.Tuple [.Name x px, .Name y py, .Name z pz] kt pt] (.Tuple [a, b, d] k2 pt2) pos) (sPar3 i j l fa) := by
  obtain ⟨len, t, pt, q⟩ := ha
  refine ⟨_, ps_par3 hc hN hi hj hl hij hil hjl hx hy hz pt hw hs, fun W σ H env S Dn r h => q W σ H env S _ r (SPost.head h fun ds e1 S1 W1 H1 vs A r1 hx h1 => ?_)⟩
  match ds, hx, h1 with
  | [d1, d2, d3], hx, h1 =>
    obtain ⟨u1, us, rfl, z1, u2, us', rfl, z2, u3, us2, rfl, z3, e⟩ := hx
    cases (show us2 = [] from e)
    exact ⟨u1, u2, u3, rfl, h1 W1 _ H1 (Aft.store2.trans .store) (((r1.store z1 i).store z2 j).store z3 l)⟩
  | [], _, h1 => exact h1.elim
  | [_], _, h1 => exact h1.elim
  | [_, _], _, h1 => exact h1.elim
  | _ :: _ :: _ :: _ :: _, _, h1 => exact h1.elim
/-! ## what is not reached -/
theorem ds_stuck {st : Stmt} : DS G X Wx st sStuck := ⟨fun _ _ _ => False, ⟨fun _ _ _ _ _ _ h => h.elim⟩, fun _ _ _ _ _ _ _ h => h⟩
theorem dss_stuck {st : List Stmt} : DSs G X Wx st sStuck := ⟨fun _ _ _ => False, ⟨fun _ _ _ _ _ _ h => h.elim⟩, fun _ _ _ _ _ _ _ h => h⟩
theorem dp_stuck : DP G X Wx e dStuck := ⟨fun _ _ _ => False, ⟨fun _ _ _ _ _ _ h => h.elim⟩, fun _ _ _ _ _ _ _ h => h⟩
end
/-! ## defs -/
section
variable {P : Program} {w : World} {K : PySem.W.Frag} {mg : Str → Option Value} {base : Heap} {G : Glb}
theorem Rel.start {W : Wd} {H : Hp} {S : Store} {ds : List DL.D} {vs : List V} (r : Rel K G W [] H [] S) (q : Reps W ds vs) (N : List Str) : Rel K G W (L2.start N vs) H (DL.start N.length ds) S where
  g := r.g
  len := by simp [DL.start, L2.start, q.length]
  fz := r.fz
  sc := r.sc
  sl := r.sl
  st := r.st
  inj := r.inj
  va := fun i d e => by
    unfold DL.start at e
    by_cases hi : i < (ds.map Sl.val).length
    · rw [List.getElem?_append_left hi, List.getElem?_map] at e
      cases hd : ds[i]? with
      | none => rw [hd] at e; cases e
      | some d' =>
        rw [hd] at e
        cases e
        obtain ⟨v, k1, k2⟩ := q.get hd
        refine ⟨v, ?_, k2⟩
        unfold L2.start
        rw [List.getElem?_append_left (by simpa [← q.length] using hi), List.getElem?_map, k1]; rfl
    · rw [List.getElem?_append_right (by omega), List.getElem?_replicate] at e
      split at e <;> cases e
  ow := fun i xs e => by
    unfold DL.start at e
    by_cases hi : i < (ds.map Sl.val).length
    · rw [List.getElem?_append_left hi, List.getElem?_map] at e
      cases hd : ds[i]? with
      | none => rw [hd] at e; cases e
      | some d' => rw [hd] at e; cases e
    · rw [List.getElem?_append_right (by omega), List.getElem?_replicate] at e
      split at e <;> cases e
  sep := fun i j xs ys a e => by
    unfold DL.start at e
    by_cases hi : i < (ds.map Sl.val).length
    · rw [List.getElem?_append_left hi, List.getElem?_map] at e
      cases hd : ds[i]? with
      | none => rw [hd] at e; cases e
      | some d' => rw [hd] at e; cases e
    · rw [List.getElem?_append_right (by omega), List.getElem?_replicate] at e
      split at e <;> cases e
theorem not_owned_start {N : List Str} {ds : List DL.D} {σ : St} {a : Addr} (h : Owned (DL.start N.length ds) σ a) : False := by
  obtain ⟨i, xs, e, _⟩ := h
  unfold DL.start at e
  by_cases hi : i < (ds.map Sl.val).length
  · rw [List.getElem?_append_left hi, List.getElem?_map] at e
    cases hd : ds[i]? with
    | none => rw [hd] at e; cases e
    | some d' => rw [hd] at e; cases e
  · rw [List.getElem?_append_right (by omega), List.getElem?_replicate] at e
    split at e <;> cases e
theorem Aft.out {W W' : Wd} {N : List Str} {ds : List DL.D} {σ σ' : St} {H H' : Hp} {e' : Env} (a : Aft W σ H (DL.start N.length ds) W' σ' H' e') : Aft W [] H [] W' [] H' [] :=
  ⟨a.le, fun b o h m _ => a.keep b o h m not_owned_start, a.tr, a.nw, fun b q => by
    rcases a.zs b q with z | z | z
    · exact .inl z
    · exact .inr (.inl z)
    · exact (not_owned_start z).elim, fun b q => (not_owned_nil q).elim⟩
/-- what is known of a def of the module -/
structure Df (K : PySem.W.Frag) (mg : Str → Option Value) (x : Str) (st : Stmt) (ps : List Str) : Prop where
  ex : ∃ f fd, L2.Fun K x x st f fd ∧ mg x = some (.ref f) ∧ Binds K fd ps []
theorem fnOk_of {x : Str} {st : Stmt} {ps N : List Str} {k n m : Nat} {sm : SM} {f : Addr} {fd : FuncData} (F : L2.Fun K x x st f fd) (S : FnScope N ps (defScope st)) (hn : ps.length = n) (hN : N.length = m)
    (body : ∀ (f : Addr) (cdv : Value) (A : Around) (outer : List PySem.Env) (s : Shared) (H : Hp) (E : XK), Room k (A.deeper (envOfC x (defScope st) s.heap.objs.size f cdv)) → DSs G (cxOf (L2.CX P w) P w K mg base N x (defScope st) f cdv A outer s H E) (fun cls d _ H => E cls d H) (defBody st) sm) :
    FnOk P w K mg base (L2.CX P w) (k + 1) f fd ps (spD K G n (fnOf m sm)) := by
  subst hN
  refine F.okX S (fun vs H Q E ⟨W, ds, S, r, q, hl, h⟩ => by rw [← q.length, hl, hn]) fun cdv A outer s H vs Q E hr ⟨W, ds, S, r, q, hl, h⟩ => ?_
  obtain ⟨t, pt, qt⟩ := body f cdv A outer s H E hr
  refine ⟨t, pt, qt W (L2.start N vs) H (DL.start N.length ds) S _ (r.start q N) ?_⟩
  unfold fnOf at h
  cases hs : sm (DL.start N.length ds) S with
  | nx e S' => rw [hs] at h; exact fun W' σ' H' A r' => h W' H' .non A.out r'.drop rfl
  | rt d S' => rw [hs] at h; exact fun W' H' v A r' q' => h W' H' v A.out r' q'
  | exc c e S' => rw [hs] at h; exact fun W' σ' H' A r' => h W' H' A.out r'.drop
  | bk e S' => rw [hs] at h; exact h.elim
  | ct e S' => rw [hs] at h; exact h.elim
  | stuck => rw [hs] at h; exact h.elim
theorem fnD_of {x : Str} {st : Stmt} {ps N : List Str} {k n m : Nat} {sm : SM} (F : Df K mg x st ps) (S : FnScope N ps (defScope st)) (hn : ps.length = n) (hN : N.length = m)
    (body : ∀ (f : Addr) (cdv : Value) (A : Around) (outer : List PySem.Env) (s : Shared) (H : Hp) (E : XK), Room k (A.deeper (envOfC x (defScope st) s.heap.objs.size f cdv)) → DSs G (cxOf (L2.CX P w) P w K mg base N x (defScope st) f cdv A outer s H E) (fun cls d _ H => E cls d H) (defBody st) sm) :
    FnD P w K mg base G x (k + 1) n (fnOf m sm) := by
  obtain ⟨f, fd, F, hm, hb⟩ := F.ex
  exact ⟨f, fd, ps, fnOk_of F S hn hN body, hm, F.kp, hb⟩
/-- a def that is not called -/
theorem fnD_stuck {x : Str} {st : Stmt} {ps N : List Str} {k n : Nat} (F : Df K mg x st ps) (S : FnScope N ps (defScope st)) : FnD P w K mg base G x (k + 1) n fStuck := by
  obtain ⟨f, fd, F, hm, hb⟩ := F.ex
  refine ⟨f, fd, ps, ?_, hm, F.kp, hb⟩
  exact F.okX S (fun vs H Q E ⟨W, ds, S, r, q, hl, h⟩ => h.elim) fun cdv A outer s H vs Q E hr ⟨W, ds, S, r, q, hl, h⟩ => h.elim
theorem FnD.up {x : Str} {k j n : Nat} {F : Fn} (h : FnD P w K mg base G x k n F) (hj : k ≤ j) : FnD P w K mg base G x j n F := by
  obtain ⟨f, fd, ps, h1, h2, h3, h4⟩ := h.ex
  exact ⟨f, fd, ps, h1.mono hj, h2, h3, h4⟩
end
end DL

set_option Elab.async false
set_option linter.all false
set_option maxRecDepth 100000
set_option maxHeartbeats 4000000
namespace DL
open PySem PySem.Spec PyProof.Rows L2
/-! ## room -/
section
variable {k : Nat} {A : Around}
theorem u64 (h : Room k A) : A.units + 64 < cLine := by have := h.un; omega
theorem u65 (h : Room k A) : A.units + 65 < cLine := by have := h.un; omega
theorem u2 (h : Room k A) : A.units + 2 < cLine := by have := h.un; omega
theorem u0 (h : Room k A) : A.units < cLine := by have := h.un; omega
end
section
variable {G : Glb} {X : Cx} {Wx : WX} {e a b c o tg it elt tg1 it1 : Expr} {es ifs ifs1 : List Expr} {f g h : EM} {fa : AM} {fb fb1 : BM} {pos p : Pos}
variable {scope : Scope} {own : List (Str × Nat)} {sl sl1 vs1 : List Nat} {im im1 : IM} {gm gm1 : GM}
/-! ## x = [..], the list stands still -/
theorem lc_storeV {t : TE} {fl : LM} {i : Nat} {y : Str} {py : Pos} {rhs : Expr} (ps : PS X (.Assign [.Name y py] rhs pos) (tAsg t (L2.gName i)))
    (q : ∀ W σ H env S Q, Rel X.K G W σ H env S → PostF X.K G Wx W σ H env Q (fl env S) → t σ H Q) : DS G X Wx (.Assign [.Name y py] rhs pos) (sAsg (dFz fl) (DL.gName i)) := by
  refine ⟨_, ps, fun W σ H env S Dn r h => q W σ H env S _ r ?_⟩
  unfold sAsg dFz at h
  cases hf : fl env S with
  | ok xs e1 S1 =>
    rw [hf] at h
    intro W1 H1 a vs A r1 h0 h1 h2 h3 h4 h5
    have r2 : Rel X.K G (W1.addZ a (.lst vs)) σ H1 e1 S1 := r1.addZ h3 h1 h4 h5
    exact h _ _ H1 ((A.froze h0 h3).trans .store) (r2.store (.lstAt (Wd.addZ_same W1 a _) (h2.mono (Le.addZ h3))) i)
  | exc c e1 S1 => rw [hf] at h; exact fun W1 H1 A r1 => h W1 σ H1 A r1
  | stuck => rw [hf] at h; exact h
theorem ds_valLc {i : Nat} {y : Str} {py : Pos} {spos : Pos} (hc : X.calm = true) (hN : X.N.Nodup) (hi : DI G X Wx tg it im) (ok : BlkOk X.N X.env.scope scope own) (B : Blk G X scope tg sl gm ifs fb elt f) (hsl : ∀ i ∈ sl, i ∈ own.map (·.2))
    (hy : X.N[i]? = some y := by rfl) (hyl : X.env.scope.names.lookup y = some .local := by rfl) (hsw : swapsWith (.ListComp elt [⟨tg, it, ifs, 0⟩] scope pos) (some (.Name y py)) spos.line X.env = pure true := by exact sw_true rfl rfl rfl rfl)
    (hs : ∀ x, foldedSetIterable it X.env x = pure x := by intro _; rfl) : DS G X Wx (.Assign [.Name y py] (.ListComp elt [⟨tg, it, ifs, 0⟩] scope pos) spos) (sAsg (dFz (lLc (own.map (·.2)) im gm fb f)) (DL.gName i)) := by
  obtain ⟨ti, pi, q⟩ := hi
  exact lc_storeV (ps_setLc (g := tG X.K G sl gm) (tt := tT X.K G noX fb) (te := tP X.K G noX f) hc hN hy hyl hsw pi ok B.g B.t (fun s H C cl fp => (B.e s H C cl fp).can) hs) fun W σ H env S Q r h => lc_sem hsl q r h
theorem ds_valLc2 {i : Nat} {y : Str} {py : Pos} {spos : Pos} (hc : X.calm = true) (hN : X.N.Nodup) (hi : DI G X Wx tg it im) (ok : BlkOk X.N X.env.scope scope own) (B : Blk2 G X scope tg sl gm ifs fb tg1 it1 im1 sl1 gm1 ifs1 fb1 elt f) (hsl : ∀ i ∈ sl, i ∈ own.map (·.2)) (hsl1 : ∀ i ∈ sl1, i ∈ vs1) (hv : ∀ i ∈ vs1, i ∈ own.map (·.2))
    (hy : X.N[i]? = some y := by rfl) (hyl : X.env.scope.names.lookup y = some .local := by rfl) (hsw : swapsWith (.ListComp elt [⟨tg, it, ifs, 0⟩, ⟨tg1, it1, ifs1, 0⟩] scope pos) (some (.Name y py)) spos.line X.env = pure true := by exact sw_true rfl rfl rfl rfl)
    (hs : ∀ x, foldedSetIterable it X.env x = pure x := by intro _; rfl) (hs1 : ∀ env x, foldedSetIterable it1 env x = pure x := by intro _ _; rfl) : DS G X Wx (.Assign [.Name y py] (.ListComp elt [⟨tg, it, ifs, 0⟩, ⟨tg1, it1, ifs1, 0⟩] scope pos) spos) (sAsg (dFz (lLc2 (own.map (·.2)) vs1 im gm fb im1 gm1 fb1 f)) (DL.gName i)) := by
  obtain ⟨ti, pi, q⟩ := hi
  exact lc_storeV (ps_setLc2 (g := tG X.K G sl gm) (tt := tT X.K G noX fb) (wi1 := tI X.K G noX im1) (g1 := tG X.K G sl1 gm1) (tt1 := tT X.K G noX fb1) (te := tP X.K G noX f) hc hN hy hyl hsw pi ok hv B.g B.t (fun s H C cl fp => (B.i s H C cl fp).can) B.g1 B.t1 (fun s H C cl fp => (B.e s H C cl fp).can) hs hs1) fun W σ H env S Q r h => lc_sem2 hsl hsl1 hv q r h
/-! ## list methods -/
theorem type_list_pop' : typeOf (.builtin "list.pop") = pure (.type "method_descriptor") := by show builtinType _ = _; rw [builtinType_eq_fast]; kernel_rfl
theorem pushed {W : Wd} {σ : St} {H : Hp} {env : Env} {S : Store} {Q : VK} {da dv : DL.D} {va v : V} (r : Rel X.K G W σ H env S) (qa : RepB W σ da va) (qv : Rep W dv v) (h : Post X.K G RP Wx W σ H env Q (pushAt dv da env S)) : rAppend va [v] H Q := by
  unfold pushAt at h
  split at h
  · rename_i i
    split at h
    · rename_i xs hx
      split at h
      · rename_i hl
        obtain ⟨a, vs, k1, k2, k3, k4, k5⟩ := r.ow i xs hx
        have qa' : σ[i]? = some (some va) := qa
        rw [k1] at qa'
        cases qa'
        refine ⟨a, vs, v, rfl, rfl, k2, by rw [← k3.length, size_line]; exact hl, ?_⟩
        exact h W _ .non (.mutOwn hx k1) (r.mutOwn hx k1 (k3.append (.cons qv .nil))) rfl
      · exact h.elim
    · exact h.elim
  · rename_i n
    split at h
    · rename_i xs hx
      split at h
      · rename_i hl
        obtain ⟨a, rfl, hn⟩ := qa
        obtain ⟨a', g1, vs, g2, g3⟩ := r.st n _ hx
        rw [hn] at g1; cases g1
        refine ⟨a, vs, v, rfl, rfl, g2, by rw [← g3.length, size_line]; exact hl, ?_⟩
        exact h W _ .non (.mutSt hn) (r.mutSt hn ⟨_, upd_same, g3.append (.cons qv .nil)⟩) rfl
      · exact h.elim
    · exact h.elim
  · exact h.elim
theorem dp_append {apos : Pos} (ho : DE G X Wx o f) (he : DP G X Wx e g)
    (hbase : attributeBase o "append" X.env (eval o X.env) = eval o X.env := by rfl)
    (hfew : ((backTo pos (starEach [e] X.env)).all (fun x => !x.1) && (backToKw pos (keywordEach [] X.env)).all (fun x => x.1.isSome)
      && decide ([e].length + ([] : List Keyword).length + (if ([] : List Keyword).isEmpty then 0 else 1) < 30)) = true := by rfl)
    (hline : (apos.endLine == pos.line) = true := by rfl) (hs : starEach [e] X.env = (false, eval e X.env) :: starEach [] X.env := by rfl) (hplain : (backTo pos (starEach [] X.env)).any (·.1) = false := by rfl) :
    DP G X Wx (.Call (.Attribute o "append" apos) [e] [] pos) (dApp f g) := by
  obtain ⟨to, po, qo⟩ := ho
  obtain ⟨te, pe, qe⟩ := he
  refine ⟨_, pe_bm PySem.F.plainAttrs_list PySem.F.slot_list_append PySem.F.type_list_append mt_append po (pa_cons pe pa_nil hs) hbase hfew hline hs hplain, fun W σ H env S Q r h => ?_⟩
  refine qo W σ H env S _ r (Post.seq h fun d1 e1 S1 W1 H1 v1 A1 r1 q1 h1 => ?_)
  split at h1
  · rename_i xs hx
    obtain ⟨a, vs, rfl, k1, k2⟩ := r1.lookL q1 hx
    refine ⟨.inl ⟨rfl, vs, .of k1⟩, qe W1 σ H1 e1 S1 _ r1 (Post.seq h1 fun d2 e2 S2 W2 H2 v2 A2 r2 q2 h2 => ?_)⟩
    exact pushed r2 (q1.mono A2.le) q2 h2
  · exact h1.elim
theorem popped {W : Wd} {σ : St} {H : Hp} {env : Env} {S : Store} {Q : VK} {da : DL.D} {va : V} (r : Rel X.K G W σ H env S) (qa : RepB W σ da va) (h : Post X.K G RP Wx W σ H env Q (popAt da env S)) : tyV X.K "list" va H ∧ rPop va [] H Q := by
  unfold popAt at h
  split at h
  · rename_i i
    split at h
    · rename_i xs hx
      split at h
      · rename_i y hy
        obtain ⟨a, vs, k1, k2, k3, k4, k5⟩ := r.ow i xs hx
        have qa' : σ[i]? = some (some va) := qa
        rw [k1] at qa'
        cases qa'
        obtain ⟨v, g1, g2⟩ := k3.get hy
        refine ⟨.inl ⟨rfl, vs, .of k2⟩, a, vs, v, rfl, rfl, k2, by rw [← k3.length]; exact g1, ?_⟩
        refine h W _ v (.mutOwn hx k1) (r.mutOwn hx k1 ?_) g2
        rw [List.dropLast_eq_take, List.dropLast_eq_take, ← k3.length]
        exact k3.take _
      · exact h.elim
    · exact h.elim
  · rename_i n
    split at h
    · rename_i xs hx
      split at h
      · rename_i y hy
        obtain ⟨a, rfl, hn⟩ := qa
        obtain ⟨a', g1, vs, g2, g3⟩ := r.st n _ hx
        rw [hn] at g1; cases g1
        obtain ⟨v, k1, k2⟩ := g3.get hy
        refine ⟨.inl ⟨rfl, vs, .of g2⟩, a, vs, v, rfl, rfl, g2, by rw [← g3.length]; exact k1, ?_⟩
        refine h W _ v (.mutSt hn) (r.mutSt hn ⟨_, upd_same, ?_⟩) k2
        rw [List.dropLast_eq_take, List.dropLast_eq_take, ← g3.length]
        exact g3.take _
      · exact h.elim
    · exact h.elim
  · exact h.elim
theorem dp_pop {apos : Pos} (ho : DE G X Wx o f) (hbase : attributeBase o "pop" X.env (eval o X.env) = eval o X.env := by rfl) (hline : (apos.endLine == pos.line) = true := by rfl) :
    DP G X Wx (.Call (.Attribute o "pop" apos) [] [] pos) (dPop f) := by
  obtain ⟨to, po, qo⟩ := ho
  refine ⟨_, pe_bm0 PySem.F.plainAttrs_list PySem.F.slot_list_pop type_list_pop' mt_pop po hbase hline, fun W σ H env S Q r h => ?_⟩
  exact qo W σ H env S _ r (Post.seq h fun d1 e1 S1 W1 H1 v1 A1 r1 q1 h1 => popped r1 q1 h1)
end
/-! ## the end -/
def g0 : Glb := ⟨fun _ => 0, fun _ => .non, fun _ => ""⟩
theorem cx_end {P : Program} {w : World} {H : Hp} {s s' : Shared} {e : Value} (h : L2.CX P w [] H s (fun _ _ _ => False) e s') : False := by
  obtain ⟨_, _, _, _, _, _, _, _, _, _, _, _, z⟩ := h
  exact z
theorem scr_reps {W : Wd} : ∀ ns : List Int, Reps W (ns.map .int) (ns.map V.int)
  | [] => rfl
  | n :: ns => .cons rfl (scr_reps ns)
theorem sp_end {K : PySem.W.Frag} {G : Glb} {H : Hp} {a : Addr} {ns : List Int} {F : Fn} (ho : Only H) (hS : SqL K H a (ns.map V.int)) (h : ∃ S, F [.scr (ns.map .int)] [] = .ok (.bl true) S) :
    spD K G 1 F [.ref a] H (fun v _ => v = .bl true) fun _ _ _ => False := by
  obtain ⟨S, h⟩ := h
  refine ⟨⟨fun _ => none, fun b vs => b = a ∧ vs = ns.map V.int, [], G⟩, [.scr (ns.map .int)], [], ?_, .cons ⟨a, _, rfl, ⟨rfl, rfl⟩, scr_reps ns⟩ .nil, rfl, ?_⟩
  · refine ⟨rfl, rfl, fun b z hz => (by cases hz), fun b vs ⟨e1, e2⟩ => ?_, rfl, fun n o e => (by simp at e), (by simp), fun i d e => (by simp at e), fun i xs e => (by simp at e), fun i j xs ys a e => (by simp at e)⟩
    subst e1 e2
    rcases hS with (z | ⟨o, z⟩) | z
    · rcases ho b with y | ⟨o, xs, y⟩
      · rw [y] at z; cases z
      · rw [y] at z; cases z
    · exact .inr ⟨o, z⟩
    · exact .inl (.inr z)
  · rw [h]
    exact fun W' H' v A r q => q
end DL

set_option Elab.async false
set_option linter.all false
set_option maxRecDepth 100000
set_option maxHeartbeats 4000000
namespace DL
open PySem PySem.Spec PyProof.Rows L2
/-! ## own exceptions -/
def veTail : List Value := [.type "ValueError", .type "Exception", .type "BaseException", .type "object"]
structure Ec (K : PySem.W.Frag) (mg : Str → Option Value) (G : Glb) (x : Str) (c : Nat) : Prop where
  g : mg x = some (.ref (G.cls c))
  k : PySem.W.keepIn K (.ref (G.cls c)) = true
  ex : PySem.W.excIn K (G.cls c) veTail "ValueError.__new__" = true
  s : PySem.W.subIn K (.ref (G.cls c)) (.type "BaseException") = some true
  t : PySem.W.typeIn K (.ref (G.cls c)) = some (.type "type")
section
variable {G : Glb} {X : Cx} {Wx : WX}
theorem ds_raise {x m : Str} {n j : Nat} {p p2 pos pos' : Pos} (c : Ec X.K X.mg G x n) (T : Takes X Wx) (hc : X.calm = true) (hg : Gl X x := by rfl) (hdb : (x == ("__debug__" : Str)) = false := by decide) : DS G X Wx (.Raise (some (.Call (.Name x p) [.Constant (.str m) j p2] [] pos)) none pos') (sRaise n) :=
  ⟨_, ps_raise hc T (pmk_own PySem.F.excBase_ValueError c.ex c.g c.k (raises_own c.s c.t) hg hdb), fun W σ H env S Dn r h => h W σ H .refl r⟩
end
/-- a class of the module, by its number -/
def clsAt (K : PySem.W.Frag) (x : Str) : Addr := match PySem.W.nsIn K mainGlobals x with
  | some (some (.ref a)) => a
  | _ => 0
theorem clsAt_of {K : PySem.W.Frag} {x : Str} {a : Addr} (h : PySem.W.nsIn K mainGlobals x = some (some (.ref a))) : clsAt K x = a := by unfold clsAt; rw [h]
def glbOf (names : List Str) (K : PySem.W.Frag) : Glb := ⟨fun c => clsAt K (names.getD c ""), fun _ => .non, fun _ => ""⟩
theorem ec_mk {K : PySem.W.Frag} {h : Heap} {mg : Str → Option Value} {x : Str} {C : Addr} {c : Nat} {names : List Str} (X : K.In h) (G : h.Ns mainGlobals mg) (hx : names.getD c "" = x) (a : PySem.W.nsIn K mainGlobals x = some (some (.ref C))) (k : PySem.W.keepIn K (.ref C) = true)
    (ex : PySem.W.excIn K C veTail "ValueError.__new__" = true) (s : PySem.W.subIn K (.ref C) (.type "BaseException") = some true) (t : PySem.W.typeIn K (.ref C) = some (.type "type")) : Ec K mg (glbOf names K) x c := by
  have e : (glbOf names K).cls c = C := by
    show clsAt K (names.getD c "") = C
    rw [hx]; exact clsAt_of a
  exact ⟨by rw [e]; exact PySem.W.mg_of X G a, by rw [e]; exact k, by rw [e]; exact ex, by rw [e]; exact s, by rw [e]; exact t⟩
end DL

set_option Elab.async false
set_option linter.all false
set_option maxRecDepth 100000
set_option maxHeartbeats 4000000
namespace DL
open PySem PySem.Spec PyProof.Rows L2
section
variable {G : Glb} {X : Cx} {Wx : WX} {e a b c o : Expr} {f g : EM} {pos p : Pos}
/-- a call of a built-in of two arguments -/
def C2D (G : Glb) (X : Cx) (fn : Value) (k : D → D → Option D) : Prop := ∃ r, CallR X fn r ∧ ∀ W σ H env S Q dx dy x y c, Rel X.K G W σ H env S → Rep W dx x → Rep W dy y → k dx dy = some c →
  (∀ W' H' v, Aft W σ H env W' σ H' env → Rel X.K G W' σ H' env S → Rep W' c v → Q v H') → r [x, y] H Q

theorem cd_min2 (hc : X.calm = true) : C2D G X (.builtin "min") opMin2 := by
  refine ⟨_, call_min2 hc, fun W σ H env S Q dx dy x y c r hx hy hk hq => ?_⟩
  unfold opMin2 at hk
  split at hk
  · rename_i i j
    cases hk
    cases (show x = V.int i from hx)
    cases (show y = V.int j from hy)
    exact ⟨i, j, rfl, hq W H _ .refl r rfl⟩
  · cases hk
theorem cd_max2 (hc : X.calm = true) : C2D G X (.builtin "max") opMax2 := by
  refine ⟨_, call_max2 hc, fun W σ H env S Q dx dy x y c r hx hy hk hq => ?_⟩
  unfold opMax2 at hk
  split at hk
  · rename_i i j
    cases hk
    cases (show x = V.int i from hx)
    cases (show y = V.int j from hy)
    exact ⟨i, j, rfl, hq W H _ .refl r rfl⟩
  · cases hk
theorem dp_b2 {x : Str} {id : String} {k : D → D → Option D} (o : C2D G X (.builtin id) k) (hg : Gl X x) (hm : X.mg x = none) (hv : bootBuiltins x = some (.builtin id)) (ha : DP G X Wx a f) (hb : DP G X Wx b g) (hn : x ≠ "__name__" := by decide) (hdb : (x == ("__debug__" : Str)) = false := by decide)
    (he : starEach [a, b] X.env = (false, eval a X.env) :: starEach [b] X.env := by rfl) (he2 : starEach [b] X.env = (false, eval b X.env) :: starEach [] X.env := by rfl) (hpl : (backTo pos (starEach [b] X.env)).any (·.1) = false := by rfl) : DP G X Wx (.Call (.Name x p) [a, b] [] pos) (dB2P f g k) := by
  obtain ⟨r, ho, hr⟩ := o
  obtain ⟨ta, pa, qa⟩ := ha
  obtain ⟨tb, pb, qb⟩ := hb
  refine ⟨_, pe_callB ho hg hm hv (pa_cons pa (pa_cons pb pa_nil he2) he) hn hdb he hpl, fun W σ H env S Q r0 h => ?_⟩
  refine qa W σ H env S _ r0 (Post.seq h fun d1 e1 S1 W1 H1 v1 A1 r1 q1 h1 => ?_)
  refine qb W1 σ H1 e1 S1 _ r1 (Post.seq h1 fun d2 e2 S2 W2 H2 v2 A2 r2 q2 h2 => ?_)
  split at h2
  · rename_i c hk
    exact hr W2 σ H2 e2 S2 Q d1 d2 v1 v2 c r2 (q1.mono A2.le) q2 hk fun W' H' v A' r' q' => h2 W' H' v A' r' q'
  · exact h2.elim
end
theorem walk_law {l : PySem.W.OpenLaw} {n k : Nat} {q : Program} {loose : List Str} {XP : (Str → Option Value) → Heap → Prop} {YP : World → Heap → Prop} {d : DefRec} {K : Params → PySem.W.Frag} {names : List Str} {F : Fn} {x : Str}
    (hn : l.most = some n) (hn2 : n ≤ sizeLine) (hdf : d.params.defaults = []) (hr : Room k callerA) (hY : ∀ (w : World) (h : Heap), YP w h → (K w.params).In h)
    (Fw : ∀ (w : World) (mg : Str → Option Value) (fa : Addr) (h : Heap), (K w.params).In h → h.Ns mainGlobals mg → mg d.name = some (.ref fa) →
      ∃ fd : FuncData, (∀ (s : Shared) (u : Value), BindsTo s fd ⟨[u], []⟩ [(x, u)]) ∧ ∀ base : Heap, (K w.params).In base → base.Ns mainGlobals mg → FnOk l.prog w (K w.params) mg base (L2.CX l.prog w) k fa fd [x] (spD (K w.params) (glbOf names (K w.params)) 1 F))
    (hF : ∀ ns : List Int, ns.length ≤ n → ∃ S, F [.scr (ns.map .int)] [] = .ok (.bl true) S) : PySem.W.WalkO q loose XP YP l.row.toRowW d [] (fun f vs => PySem.call f vs) :=
  L2.walk_of (K := K) (CX := fun w => L2.CX l.prog w) (sp := fun w => spD (K w.params) (glbOf names (K w.params)) 1 F) hn hn2 hdf hr hY Fw (fun w H a ns hl ho hS => sp_end ho hS (hF ns hl)) (fun _ _ _ _ _ h => cx_end h)
end DL

set_option Elab.async false
set_option linter.all false
set_option maxRecDepth 100000
set_option maxHeartbeats 4000000
/-! DL20: a def under another name of the module; xs[::-1]. -/
namespace HT
open PySem PySem.Spec PyProof.Rows
section
variable {prog : Program} {w : World} {A : Around} {E : Value → Shared → Prop} {s : Shared}
theorem fm_map {α β : Type} {f : α → Option β} {g : α → β} : ∀ {l : List α}, (∀ x ∈ l, f x = some (g x)) → l.filterMap f = l.map g
  | [], _ => rfl
  | x :: l, h => by rw [List.filterMap_cons, h x List.mem_cons_self, List.map_cons, fm_map fun y m => h y (List.mem_cons_of_mem _ m)]
theorem pick_rev (xs : Array Value) : ((List.range xs.size).filterMap fun (m : Nat) => xs[(((xs.size : Int) - 1) + (m : Int) * (-1)).toNat]?).toArray = xs.toList.reverse.toArray := by
  congr 1
  refine List.ext_getElem? fun i => ?_
  have hall : (List.range xs.size).filterMap (fun (m : Nat) => xs[(((xs.size : Int) - 1) + (m : Int) * (-1)).toNat]?) = (List.range xs.size).map (fun (m : Nat) => xs.getD (xs.size - 1 - m) .none) := by
    refine fm_map fun m hm => ?_
    have hm := List.mem_range.mp hm
    have : (((xs.size : Int) - 1) + (m : Int) * (-1)).toNat = xs.size - 1 - m := by omega
    rw [this]
    have h2 : xs.size - 1 - m < xs.size := by omega
    simp [Array.getD, h2]
  rw [hall]
  by_cases hi : i < xs.size
  · rw [List.getElem?_map, List.getElem?_range hi, List.getElem?_reverse (by simpa using hi)]
    have h2 : xs.size - 1 - i < xs.size := by omega
    simp [Array.getD, h2]
  · rw [List.getElem?_eq_none (by simpa using hi), List.getElem?_eq_none (by simpa using hi)]
theorem sliceApplied_rev {sl : Addr} {vl vu vs : Value} {n : Nat} {Q : Int × Int × Nat → Shared → Prop} (hs : s.heap.IsSliceOf sl vl vu vs) (pl : IsPart vl none) (pu : IsPart vu none) (ps : IsPart vs (some (-1)))
    (h : Q ((n : Int) - 1, -1, n) s) : wpAny (model prog w) A (Builtin.Slice.sliceApplied (.ref sl) (pure (n : Int))) Q E s := by
  obtain ⟨os, hos, hcs, hds⟩ := id hs
  unfold Builtin.Slice.sliceApplied Builtin.Slice.sliceFields
  refine wpAny_bind (wpAny_bind (wpAny_field hos hds (x := vl) rfl (wpAny_bind (wpAny_field hos hds (x := vu) rfl (wpAny_bind (wpAny_field hos hds (x := vs) rfl (wpAny_pure ?_)))))))
  refine wpAny_bind (slicePart_ ps ?_)
  show wpAny _ _ (if ((-1 : Int) == 0) = true then _ else _) _ _ s
  rw [if_neg (by decide)]
  refine wpAny_bind (slicePart_ pl (wpAny_bind (slicePart_ pu (wpAny_bind (wpAny_pure ?_)))))
  show wpAny _ _ (match Builtin.Slice.sliceAdjust none none (-1) (n : Int) with | (lo, hi) => pure (lo, (-1 : Int), Builtin.Slice.slicePlaces lo hi (-1))) _ _ s
  have e1 : Builtin.Slice.sliceAdjust none none (-1) (n : Int) = ((n : Int) - 1, -1) := rfl
  rw [e1]
  show wpAny _ _ (pure ((n : Int) - 1, (-1 : Int), Builtin.Slice.slicePlaces ((n : Int) - 1) (-1) (-1))) _ _ s
  have e2 : Builtin.Slice.slicePlaces ((n : Int) - 1) (-1) (-1) = n := by
    unfold Builtin.Slice.slicePlaces
    rw [if_neg (by decide), show -(-1 : Int) = 1 by decide, Int.ediv_one]
    split <;> omega
  rw [e2]
  exact wpAny_pure h
theorem getItem_tuple_rev {t sl : Addr} {items : Array Value} {vl vu vs : Value} {Q : Value → Shared → Prop} (ht : IsTup s.heap t items) (hs : s.heap.IsSliceOf sl vl vu vs) (pl : IsPart vl none) (pu : IsPart vu none) (ps : IsPart vs (some (-1)))
    (h : Q (.ref s.heap.objs.size) { s with heap := s.heap.push { cls := .type "tuple", data := .seq items.toList.reverse.toArray } })
    (hsz : items.size ≤ sizeLine) : wpAny (model prog w) A (getItem (.ref t) (.ref sl)) Q E s := by
  have htake : sizeOk (.seq items.toList.reverse.toArray) := by
    show items.toList.reverse.toArray.size ≤ sizeLine
    rw [List.size_toArray, List.length_reverse, Array.length_toList]
    exact hsz
  obtain ⟨os, hos, hcs, hds⟩ := id hs
  have hTs : s.TypeIs (.ref sl) "slice" := ⟨os, hos, hcs⟩
  unfold getItem
  try with_reducible refine wpAny_holding ?_
  first | refine wpAny_bind (wpAny_pure ?_) | skip
  refine wpAny_bind (wpAny_sequenceKey ht.typeIs (by decide) ?_)
  refine wpAny_bind (wpAny_callSpecial?_slot (name := Str.ofString "__getitem__") ht.typeIs PyProof.Rows.slot_tuple_getitem
    (wpAny_call_entry PyProof.Rows.slot_tuple_getitem ht.typeIs entry_tuple_getitem ?_ (args_tuple_getitem _ _)))
  show wpAny _ _ (Builtin.Tuple.tupleItemsOf (.ref t) >>= _) _ _ s
  refine wpAny_bind (tupleItemsOf_ ht ?_)
  refine wpAny_bind (wpAny_typeOf hTs ?_)
  rw [if_pos (by decide)]
  refine wpAny_bind (sliceApplied_rev hs pl pu ps ?_)
  have hno : ¬ ((((items.size : Int) - 1) == 0 && (-1 : Int) == 1 && items.size == items.size) = true) := by
    intro q
    rw [Bool.and_eq_true, Bool.and_eq_true] at q
    exact absurd q.1.2 (by decide)
  show wpAny _ _ (if (((items.size : Int) - 1) == 0 && (-1 : Int) == 1 && items.size == items.size) = true then _ else _) _ _ s
  rw [if_neg hno, pick_rev]
  first
    | exact wpAny_bind (m := Builtin.Tuple.tupleExact _) (wpAny_newObj_type (wpAny_pure ⟨_, rfl, wpAny_pure h⟩) htake)
    | exact wpAny_bind (m := Builtin.Tuple.tupleExact _) (wpAny_newObj_type (wpAny_bind (wpAny_pure (wpAny_pure ⟨_, rfl, wpAny_pure h⟩))) htake)
    | exact wpAny_bind (wpAny_bind (m := Builtin.Tuple.tupleExact _) (wpAny_newObj_type (wpAny_pure (wpAny_pure ⟨_, rfl, wpAny_pure h⟩)) htake))
    | exact wpAny_bind (wpAny_bind (m := Builtin.Tuple.tupleExact _) (wpAny_newObj_type (wpAny_pure ⟨_, rfl, wpAny_pure h⟩) htake))
end
end HT
namespace DL
open PySem PySem.Spec PyProof.Rows L2
section
variable {X : Cx}
def tRevA (K : PySem.W.Frag) (te : TE) : TE := fun σ H Q => te σ H fun x H1 => ∃ a xs, x = .ref a ∧ ((SqL K H1 a xs ∧ ∀ p, H1 p = none → Q (.ref p) (upd H1 p (.lst xs.reverse))) ∨ (SqT K H1 a xs ∧ ∀ p, H1 p = none → Q (.ref p) (upd H1 p (.tup xs.reverse))))
theorem pe_revA {e : Expr} {te : TE} {k : Nat} {p1 p2 p3 pos : Pos} (he : PE X e te) : PE X (.Subscript e (.Slice none none (some (.UnaryOp .USub (.Constant (.int 1) k p1) p2)) p3) pos) (tRevA X.K te) := by
  refine ⟨fun pins s σ H Q I h => ?_⟩
  refine Subscript_ (thn (he.run pins s σ H _ I h) fun v s1 ⟨x, H1, I1, r1, q1⟩ => ?_)
  obtain ⟨a, xs, ex, q1⟩ := q1
  subst ex
  cases r1
  have hst : PO X (some (.UnaryOp .USub (.Constant (.int 1) k p1) p2)) (tPart (tUn (rU fun i => .int (-i)) (tC (.int 1)))) := po_some (pe_un un_neg pe_int)
  refine wpAny_Slice (thn (po_none.run pins s1 σ H1 (fun o H2 => o = none ∧ H2 = H1) I1 ⟨rfl, rfl⟩) fun vl s2 ⟨l, H2, I2, pl, el, e2⟩ => ?_)
  subst el e2
  refine thn (po_none.run pins s2 σ H2 (fun o H3 => o = none ∧ H3 = H2) I2 ⟨rfl, rfl⟩) fun vu s3 ⟨u, H3, I3, pu, eu, e3⟩ => ?_
  subst eu e3
  refine thn (hst.run pins s3 σ H3 (fun o H4 => o = some (-1) ∧ H4 = H3) I3 ⟨1, rfl, -1, rfl, rfl, rfl⟩) fun vs s4 ⟨o, H4, I4, ps, eo, e4⟩ => ?_
  subst eo e4
  have I5 : Inv X pins σ H4 { s4 with heap := s4.heap.push { cls := .type "slice", data := .fields #[vl, vu, vs] } } := I4.kept (t' := s4.toks) fun b ob q => Heap.get?_push_of_some _ q
  show wpAny (model X.prog X.w) X.A (subscriptTail e (.Slice none none (some (.UnaryOp .USub (.Constant (.int 1) k p1) p2)) p3) (.ref a) (.ref s4.heap.objs.size)) (EP X pins σ Q) X.xe { s4 with heap := s4.heap.push { cls := .type "slice", data := .fields #[vl, vu, vs] } }
  rcases q1 with ⟨hx, q⟩ | ⟨hx, q⟩
  · obtain ⟨its, r, ht, hz⟩ := I5.list hx
    have hlen := r.length
    refine tail_any (ops := [.ref a, .ref s4.heap.objs.size]) ht.isList.typeIs (PySem.slot_list_getitem.lookup) ?_ (by with_unfolding_all rfl)
    refine wpAny_getItem_list_slice ht.isList (Heap.IsSliceOf.new _ vl vu vs) pl pu ps (by decide) ?_ (by rw [List.size_toArray]; omega)
    rw [PySem.W.krv_pick]
    refine ⟨.ref _, _, I5.laid (t' := s4.toks) (o := .lst xs.reverse) (fun b ob q => Heap.get?_push_of_some _ q) (Nat.le_refl _) ?_, rfl, q _ (I5.hok.fresh (Nat.le_refl _))⟩
    exact ⟨by rw [List.length_reverse]; exact hz, _, 0, r.reverse, Heap.get?_push_size _ rfl⟩
  · obtain ⟨its, r, ht, hz⟩ := I5.tuple hx
    have hlen := r.length
    refine tail_any (ops := [.ref a, .ref s4.heap.objs.size]) ht.typeIs (PyProof.Rows.slot_tuple_getitem.lookup) ?_ (by with_unfolding_all rfl)
    refine HT.getItem_tuple_rev ht (Heap.IsSliceOf.new _ vl vu vs) pl pu ps ?_ (by rw [List.size_toArray]; omega)
    refine ⟨.ref _, _, I5.laid (t' := s4.toks) (o := .tup xs.reverse) (fun b ob q => Heap.get?_push_of_some _ q) (Nat.le_refl _) ?_, rfl, q _ (I5.hok.fresh (Nat.le_refl _))⟩
    exact ⟨by rw [List.length_reverse]; exact hz, _, r.reverse, IsTup.new _ _⟩
theorem Reps.reverse {W : Wd} : ∀ {ds : List DL.D} {vs : List V}, Reps W ds vs → Reps W ds.reverse vs.reverse
  | [], vs, h => by cases (show vs = [] from h); exact rfl
  | d :: ds, vs, h => by
    obtain ⟨v, ws, rfl, r, h⟩ := h
    rw [List.reverse_cons, List.reverse_cons]
    exact (Reps.reverse h).append (.cons r .nil)
end
section
variable {G : Glb} {X : Cx} {Wx : WX} {e : Expr} {f : EM}
theorem dp_rev {k : Nat} {p1 p2 p3 pos : Pos} (he : DE G X Wx e f) : DP G X Wx (.Subscript e (.Slice none none (some (.UnaryOp .USub (.Constant (.int 1) k p1) p2)) p3) pos) (dB1 f opRev) := by
  obtain ⟨te, pe, qe⟩ := he
  refine ⟨_, pe_revA pe, fun W σ H env S Q r h => ?_⟩
  refine qe W σ H env S _ r (Post.seq h fun d1 e1 S1 W1 H1 v1 A1 r1 q1 h1 => ?_)
  have h1 : Post X.K G RP Wx W1 σ H1 e1 Q (match opRev (look e1 S1 d1) with | some r => .ok r e1 S1 | none => .stuck) := h1
  cases hk : opRev (look e1 S1 d1) with
  | none => rw [hk] at h1; exact h1.elim
  | some c =>
    rw [hk] at h1
    unfold opRev at hk
    split at hk
    · rename_i xs k1
      cases hk
      obtain ⟨p, vs, rfl, g1, g2, g3⟩ := r1.lookTZ q1 k1
      exact ⟨p, vs, rfl, .inr ⟨.of g1, finT r1 h1 g2.reverse⟩⟩
    · rename_i xs k1
      cases hk
      obtain ⟨p, vs, rfl, g1, g2⟩ := r1.lookL q1 k1
      exact ⟨p, vs, rfl, .inl ⟨.of g1, finL r1 h1 g2.reverse⟩⟩
    · cases hk
/-- a def of the module, under the name g -/
structure DfA (K : PySem.W.Frag) (mg : Str → Option Value) (g x : Str) (st : Stmt) (ps : List Str) : Prop where
  ex : ∃ f fd, L2.Fun K x x st f fd ∧ mg g = some (.ref f) ∧ Binds K fd ps []
variable {P : Program} {w : World} {K : PySem.W.Frag} {mg : Str → Option Value} {base : Heap}
theorem fnD_ofA {g x : Str} {st : Stmt} {ps N : List Str} {k n m : Nat} {sm : SM} (F : DfA K mg g x st ps) (S : FnScope N ps (defScope st)) (hn : ps.length = n) (hN : N.length = m)
    (body : ∀ (f : Addr) (cdv : Value) (A : Around) (outer : List PySem.Env) (s : Shared) (H : Hp) (E : XK), Room k (A.deeper (envOfC x (defScope st) s.heap.objs.size f cdv)) → DSs G (cxOf (L2.CX P w) P w K mg base N x (defScope st) f cdv A outer s H E) (fun cls d _ H => E cls d H) (defBody st) sm) :
    FnD P w K mg base G g (k + 1) n (fnOf m sm) := by
  obtain ⟨f, fd, F, hm, hb⟩ := F.ex
  exact ⟨f, fd, ps, fnOk_of F S hn hN body, hm, F.kp, hb⟩
end
end DL

set_option Elab.async false
set_option linter.all false
set_option maxRecDepth 100000
set_option maxHeartbeats 4000000
/-! DL21: any of truth values. -/
namespace DL
open PySem PySem.Spec PyProof.Rows L2
section
variable {G : Glb} {X : Cx} {Wx : WX}
def rAnyB (K : PySem.W.Frag) : List V → Hp → VK → Prop := fun vs H Q => ∃ (a : Addr) (ns : List Bool), vs = [V.ref a] ∧ SqL K H a (ns.map V.bl) ∧ Q (.bl (ns.any id)) H
theorem truth_bls {prog : Program} {w : World} {A : Around} {ns : List Bool} {its : List Value} (e : Vals (ns.map V.bl) its) :
    TruthOf prog w A (fun i v => its.toArray[i]? = some v) (fun i => ns.getD i false) := fun i v s Q E hv hq => by
  have hv' : its[i]? = some v := by simpa using hv
  cases hn : ns[i]? with
  | none =>
    have h1 := e.length
    rw [List.length_map] at h1
    have h2 := List.getElem?_eq_none_iff.mp hn
    have h3 := (List.getElem?_eq_some_iff.mp hv').1
    omega
  | some n =>
    obtain ⟨u, hu, ru⟩ := e.get (i := i) (x := V.bl n) (by rw [List.getElem?_map, hn]; rfl)
    rw [hv'] at hu; cases hu
    cases ru
    have hg : ns.getD i false = n := by rw [List.getD_eq_getElem?_getD, hn]; rfl
    have hq' : Q (ns.getD i false) s := hq
    rw [hg] at hq'
    exact wpAny_truthy_bool hq'
theorem cr_anyB (hc : X.calm = true) : CallR X (.builtin "any") (rAnyB X.K) := by
  intro pins s σ H vs us Q I r h
  obtain ⟨a, ns, rfl, hs, q⟩ := h
  rw [Vals.ref1 r]
  have an : ∀ its : List Value, Vals (ns.map V.bl) its → (List.range its.toArray.size).any (fun i => ns.getD i false) = ns.any id := fun its rv => by
    have e : its.toArray.size = ns.length := by rw [List.size_toArray, ← rv.length, List.length_map]
    rw [e, L2.any_range]
  obtain ⟨its, rv, hl, _⟩ := I.list hs
  refine call_any_walk (iter_any hl.isList fun s₂ e2 st hne => ?_)
  subst e2
  refine ⟨_, _, _, _, _, _, _, rfl, Walks.list (A := X.A.in1) (I.ok.hd hc) _ a hne its.toArray, st, truth_bls rv, fun h' tk hk => ?_⟩
  refine ⟨.bl _, H, I.kept fun b o eo => hk b o (fun hmem => ?_) (Heap.get?_push_of_some _ eo), ?_, q⟩
  · rcases List.mem_cons.mp hmem with e1 | hmem
    · exact absurd (e1 ▸ Heap.lt_size eo) (Nat.lt_irrefl _)
    · cases hmem
  · show Value.bool _ = Value.bool _
    rw [an its rv]
theorem cd_anyB (hc : X.calm = true) : C1D G X (.builtin "any") opAnyB := by
  refine ⟨_, cr_anyB hc, fun W σ H env S Q dx x c r hx hk hq => ?_⟩
  unfold opAnyB at hk
  split at hk
  · rename_i a h1
    split at hk
    · rename_i ns e
      cases hk
      obtain ⟨p, vs, rfl, k1, k2⟩ := r.lookL hx h1
      have g := k2.bls e
      subst g
      exact ⟨p, ns, rfl, .of k1, fin0 r hq rfl⟩
    · cases hk
  · cases hk
variable {pos : Pos}
theorem dp_g (i : Nat) {x : Str} (hN : X.N[i]? = some x := by rfl) (hv : Vis X.env.scope x := by first | exact Or.inl rfl | exact Or.inr (Or.inl rfl) | exact Or.inr (Or.inr rfl)) (hd : (x == ("__debug__" : Str)) = false := by decide)
    (hcd : (x == ("__classdict__" : Str)) = false := by decide) : DP G X Wx (.Name x pos) (dG i) := by
  refine ⟨_, pe_var hN hv hd hcd, fun W σ H env S Q r k => ?_⟩
  dsimp only [dG] at k
  split at k
  · rename_i xs hd
    obtain ⟨a, vs, h1, h2, h3, h4, h5⟩ := r.ow i xs hd
    have no : ¬ Owned (env.set i .non) σ a := fun ⟨j, ys, z1, z2⟩ => by
      rcases get_set z1 with ⟨_, y⟩ | ⟨y, z⟩
      · cases y
      · exact y (r.sep i j xs ys a hd z h1 z2)
    have r1 : Rel X.K G (W.addZ a (.lst vs)) σ H (env.set i .non) S := (r.setNon i).addZ h4 h2 h5 no
    have r2 := r1.setVal (d := .lst xs) h1 (.lstAt (Wd.addZ_same W a _) (h3.mono (Le.addZ h4)))
    rw [List.set_set] at r2
    refine ⟨.ref a, h1, k _ H _ ⟨Le.addZ h4, fun b o h _ _ => h, fun b h => h, fun b h => .inl h, fun b h => ?_, fun b h => .inl (owned_set_val h)⟩ r2 (.lstAt (Wd.addZ_same W a _) (h3.mono (Le.addZ h4)))⟩
    by_cases hb : b = a
    · subst hb; exact .inr (.inr ⟨i, xs, hd, h1⟩)
    · rw [Wd.addZ_ne W _ hb] at h; exact .inl h
  · rename_i d hd
    obtain ⟨v, h1, h2⟩ := r.va i d hd
    exact ⟨v, h1, k W H v .refl r h2⟩
  · exact k.elim
end
end DL

set_option Elab.async false
set_option linter.all false
set_option maxRecDepth 100000
set_option maxHeartbeats 4000000
/-! DL22: try: .. except X as n: y = n; the caught exception is kept as a value. -/
namespace DL
open PySem PySem.Spec PyProof.Rows L2
/-- a new thing is looked at: an object that stands apart from all that is known -/
theorem Inv.track {X : Cx} {pins : List (Addr × Obj)} {σ : L2.St} {H : Hp} {s : Shared} {a : Addr} {o : Obj} {φ : Heap → Prop} (I : Inv X pins σ H s) (ho : s.heap.get? a = some o) (hH : H a = none) (hl : a ≠ X.env.locals) (hc : ∀ v, o.data ≠ .cell v)
    (h0 : a ∉ X.ex → X.s_0.heap.get? a = none) (hp : ∀ p ∈ X.pn ++ pins, p.1 ≠ a) (hφ : φ s.heap) (st : ∀ h1 h2 : Heap, φ h1 → (∀ o, h1.get? a = some o → h2.get? a = some o) → φ h2) : Inv X pins σ (upd H a (.ext φ)) s where
  ok := I.ok
  os := I.os
  bare := I.bare
  base := {
    keep := I.base.keep
    slot := I.base.slot
    free := fun b ob e n hx => by
      have hb : b ≠ a := fun z => by subst z; rw [h0 hx] at e; cases e
      rw [upd_ne hb]; exact I.base.free b ob e n hx
    there := I.base.there
    tups := fun b xs e => by
      have q := I.base.tups b xs e
      have hb : b ≠ a := fun z => by rw [z, hH] at q; cases q
      rw [upd_ne hb]; exact q
    frzs := fun b ob u e => by
      have q := I.base.frzs b ob u e
      have hb : b ≠ a := fun z => by rw [z, hH] at q; cases q
      rw [upd_ne hb]; exact q
    tbls := fun b ps e => by
      obtain ⟨more, q⟩ := I.base.tbls b ps e
      have hb : b ≠ a := fun z => by rw [z, hH] at q; cases q
      exact ⟨more, by rw [upd_ne hb]; exact q⟩ }
  loc := I.loc
  cell := I.cell
  free := by rw [upd_ne (Ne.symm hl)]; exact I.free
  freeC := fun x c e => by
    have hb : c ≠ a := fun z => by
      obtain ⟨v, oc, hoc, hd⟩ := I.cell x c e
      rw [z, ho] at hoc; cases hoc
      exact hc v hd
    rw [upd_ne hb]; exact I.freeC x c e
  pin := fun p hpm => by
    obtain ⟨q1, q2, q3⟩ := I.pin p hpm
    exact ⟨q1, by rw [upd_ne (hp p hpm)]; exact q2, q3⟩
  hok := fun b ob e => by
    by_cases hb : b = a
    · subst hb
      rw [upd_same] at e; cases e
      exact ⟨hφ, ⟨o, ho⟩, st⟩
    · rw [upd_ne hb] at e
      refine (I.hok b ob e).stay (fun _ _ _ q => q) (fun c q => ?_) fun c xs q => ?_
      · have hca : c ≠ a := fun z => by rw [z, hH] at q; cases q
        rw [upd_ne hca]; exact q
      · have hca : c ≠ a := fun z => by rw [z, hH] at q; cases q
        rw [upd_ne hca]; exact q
  len := I.len
theorem excAt_steady {C a : Addr} : ∀ h1 h2 : Heap, ExcAt C a h1 → (∀ o, h1.get? a = some o → h2.get? a = some o) → ExcAt C a h2 := fun h1 h2 ⟨o, J⟩ k => by
  refine ⟨o, k o J.at_, J.cls, J.no, ?_⟩
  have := J.dict
  cases hd : o.dict with
  | none => trivial
  | some dx => rw [hd] at this; exact this.elim
/-- what is wished where the clause keeps its exception in slot j -/
def wKeep (K : PySem.W.Frag) (c : Value) (i j : Nat) (D : Ends) : WX := fun cls d σ H =>
  PySem.W.exmOne K cls c = some true ∧ d = none ∧ ∃ C, cls = .ref C ∧ ∀ a, H a = none → D.nx (((σ.set i (some (.ref a))).set j (some (.ref a))).set i none) (upd H a (.ext (ExcAt C a)))
section
variable {X : Cx} {x n y : Str} {c : Value} {i j : Nat} {body : List Stmt} {np p1 p2 p3 pos pos' : Pos} {tb : WX → TS} {Wout : WX}
theorem ps_try_keep (hs : X.stack = X.env :: X.outer) (hf : X.env.frame = some X.env.locals) (hN : X.N.Nodup) (hi : X.N[i]? = some n) (hln : X.env.kindOf n = some .local) (hj : X.N[j]? = some y) (hly : X.env.kindOf y = some .local) (hij : i ≠ j) (hc : Names X x c)
    (hsw : swapsWithSole [(.Name y p1)] (.Name n p2) p3.line X.env = pure false)
    (hdb : (n == ("__debug__" : Str)) = false) (hcd : (n == ("__classdict__" : Str)) = false)
    (hb : ∀ (W : WX) (pn : List (Addr × Obj)) (xe : Value → Shared → Prop), Takes (X.tr pn xe) W → PassesOwn (model X.prog X.w) X.A X.env xe → PSs (X.tr pn xe) body (tb W)) :
    PS X (.Try body [.ExceptHandler (some (.Name x np)) (some n) [.Assign [.Name y p1] (.Name n p2) p3] pos'] [] [] pos) (fun D σ H => tb (wKeep X.K c i j D) D σ H) := by
  refine ⟨fun pins s σ H D I h => ?_⟩
  have ok := I.ok
  have hfr : X.A.frames = some (X.env :: X.outer) := by rw [ok.frames, hs]
  have hloc : Loc X.env.scope n := .inl hln
  have hlocy : Loc X.env.scope y := .inl hly
  refine wpAny_Try_except ?_
  refine wpAny_mono ((hb (wKeep X.K c i j D) (X.pn ++ pins) (fun e s₁ => wpAny (model X.prog X.w) X.A (noteFrame e X.env) (fun _ s₂ => wpAny (model X.prog X.w) X.A (setFlight e none) (fun _ s₃ =>
    wpAny (model X.prog X.w) X.A (handleBy e X.env [.ExceptHandler (some (.Name x np)) (some n) [.Assign [.Name y p1] (.Name n p2) p3] pos']) (SP X pins D) X.xe s₃) X.xe s₂) X.xe s₁) (fun u s' xx => ?_) PassesOwn.looking).run [] s σ H D (I.toTry _) h) (fun f s1 hsp => ?_) (fun e s1 he => he)
  · -- the catch
    obtain ⟨a, B, sI, pins', σ', H', cls, d, rfl, J', nb, up, sky, na, os, ag, hb1, hd0, C, hC, hyes⟩ := xx
    subst hd0 hC
    have J : Inv X pins σ' H' sI := J'.ofTry ok
    have sky' : Sky B (X.env :: X.outer) a (Zc (.ref C) none) X.env.locals s'.heap := by rw [← hs]; exact sky
    show wpAny (model X.prog X.w) X.A (noteFrame (.ref a) X.env) _ _ _
    refine Sky.land Zc.steady hfr hf sky' fun h3 fl3 up3 => ?_
    have J3 : Inv X pins σ' H' { s' with heap := h3 } := J.landed nb fl3.1 (up.trans up3) os ag
    obtain ⟨oe3, vs3, he3, hz3, hd3⟩ := fl3.there
    have notFr : ∀ {h : Heap} {o : Obj} {vs : Array Value}, h.FunFrames B (X.env :: X.outer) → h.get? a = some o → o.data = .fields vs → a ∉ frs (X.env :: X.outer) := fun {h o vs} ff e dd hm => by
      obtain ⟨_, o', e', hnf⟩ := ff.mem hm
      rw [e] at e'; cases e'
      exact hnf _ dd
    have nfr := notFr fl3.2.2.1 he3 hd3
    have nL : a ≠ X.env.locals := fun z => nfr (List.mem_filterMap.mpr ⟨X.env, List.mem_cons_self, by rw [hf, z]⟩)
    have nF : a ∉ X.fs := fun hm => by
      obtain ⟨e, he, q⟩ := List.mem_filterMap.mp hm
      exact nfr (List.mem_filterMap.mpr ⟨e, List.mem_cons_of_mem _ he, q⟩)
    have Bnone : B.get? a = none := fl3.2.1
    have sInone : sI.heap.get? a = none := by
      cases q : sI.heap.get? a with
      | none => rfl
      | some o =>
        have := nb a o q (by rw [hs]; exact nfr)
        rw [Bnone] at this; cases this
    have pinne : ∀ p ∈ X.pn ++ pins, p.1 ≠ a := fun p hp z => by
      have := (J.pin p hp).1
      rw [z, sInone] at this; cases this
    have S3 := J3.suite he3 hd3 na nL nF
    refine wpAny_handleBy_cons (codeAny_handlers_test ?_) (by intro q; cases q)
    have LT : PySem.W.Looks (model X.prog X.w) h3 (typeOf (.ref a)) (.ref C) := fun A Q E s k q => wpAny_typeOf_ref (k _ _ he3) (by rw [hz3.1]; exact q)
    have LM := PySem.W.exm_one (M := model X.prog X.w) (J3.kIn) LT hb1
    have test : ∀ {Q : Value → Shared → Prop} {E : Value → Shared → Prop}, Q c { s' with heap := h3 } → wpAny (model X.prog X.w) (X.A.mark (some (.ref a))) (eval (.Name x np) X.env) Q E { s' with heap := h3 } := fun {Q E} q => by
      obtain ⟨hg, hdbg, hm | ⟨hm, hv, hnn⟩⟩ := hc
      · exact ld_glob (X := X.suite a ((a, oe3) :: (X.pn ++ pins))) S3 hg hm q hdbg
      · exact ld_blt (X := X.suite a ((a, oe3) :: (X.pn ++ pins))) S3 hg hm hv q hnn hdbg
    refine test (LM.here ?_)
    refine codeAny_handlers_suite_as ?_
    refine HandSPX.lands_againZ fl3 fun h4 fl4 up4 => ?_
    have J4 : Inv X pins σ' H' { s' with heap := h4 } := J.landed nb fl4.1 ((up.trans up3).trans up4) os ag
    obtain ⟨oe4, vs4, he4, hz4, hd4⟩ := fl4.there
    have S4 := J4.suite he4 hd4 na nL nF
    refine store_ok (X := X.suite a ((a, oe4) :: (X.pn ++ pins))) (v := .ref a) S4 hN hi hloc rfl (fun s5 S5 => ?_) (.inr hln)
    have hsu : PSs (X.suite a ((a, oe4) :: (X.pn ++ pins))) [.Assign [.Name y p1] (.Name n p2) p3] _ := pss_one (ps_asg (pe_var hi (.inl hln) hdb hcd) (pg_name (i := j) hN hj hlocy (.inr hly)) hsw)
    have iσ : i < σ'.length := by rw [J4.len]; exact (List.getElem?_eq_some_iff.mp hi).1
    refine wpAny_mono (hsu.run [] s5 _ H' { nx := fun σ6 H6 => σ6 = (σ'.set i (some (.ref a))).set j (some (.ref a)) ∧ H6 = H', rt := fun _ _ => False, bk := fun _ _ => False, ct := fun _ _ => False } S5 ⟨.ref a, by rw [List.getElem?_set_self iσ], rfl, rfl⟩) (fun f s6 hsp => ?_) (fun _ _ z => False.elim z)
    cases f with
    | next =>
      obtain ⟨σ6, H6, S6, e6, e6'⟩ := hsp
      subst e6 e6'
      have pin6 := S6.pin (a, oe4) (List.mem_append_left _ List.mem_cons_self)
      have hdc : ∀ v, oe4.data ≠ .cell v := fun v q => by rw [hd4] at q; cases q
      have s0 : a ∉ X.ex → X.s_0.heap.get? a = none := fun hx => by
        cases q : X.s_0.heap.get? a with
        | none => rfl
        | some o =>
          obtain ⟨o', q'⟩ := J.base.there a o q hx
          rw [sInone] at q'; cases q'
      have EA : ExcAt C a s6.heap := by
        obtain ⟨oc, od, oda, osl⟩ := oe4
        obtain ⟨z1, z2⟩ := hz4
        dsimp only at z1 z2 hd4
        subst z1 z2 hd4
        exact ⟨_, pin6.1, rfl, rfl, trivial⟩
      have I7 := Inv.track (S6.unsuite ok) pin6.1 pin6.2.1 nL hdc s0 pinne (φ := ExcAt C a) EA excAt_steady
      exact gone_ok I7 hN hi hln fun s7 J7 => ⟨_, _, J7, hyes a na⟩
    | brk =>
      obtain ⟨σ6, H6, S6, q6⟩ := hsp
      exact q6.elim
    | cont =>
      obtain ⟨σ6, H6, S6, q6⟩ := hsp
      exact q6.elim
    | ret u =>
      obtain ⟨v6, σ6, H6, S6, r6, q6⟩ := hsp
      exact q6.elim
  · cases f with
    | next =>
      obtain ⟨σ', H', J', q⟩ := hsp
      exact wpAny_execs_nil ⟨σ', H', J'.ofTry ok, q⟩
    | brk =>
      obtain ⟨σ', H', J', q⟩ := hsp
      exact ⟨σ', H', J'.ofTry ok, q⟩
    | cont =>
      obtain ⟨σ', H', J', q⟩ := hsp
      exact ⟨σ', H', J'.ofTry ok, q⟩
    | ret u =>
      obtain ⟨v, σ', H', J', r, q⟩ := hsp
      exact ⟨v, σ', H', J'.ofTry ok, r, q⟩
end

/-! ## by meanings -/
def tSs (K : PySem.W.Frag) (G : Glb) (Wx : WX) (sm : SM) : TS := fun D σ H => ∃ W env S, Rel K G W σ H env S ∧ SPost K G Wx W σ H env D (sm env S)
theorem DSs.can {G : Glb} {X : Cx} {Wx : WX} {st : List Stmt} {sm : SM} (h : DSs G X Wx st sm) : PSs X st (tSs X.K G Wx sm) := by
  obtain ⟨t, pt, q⟩ := h
  exact ⟨fun pins s σ H D I ⟨W, env, S, r, h⟩ => pt.run pins s σ H D I (q W σ H env S D r h)⟩
section
variable {K : PySem.W.Frag} {G : Glb} {W : Wd} {σ : L2.St} {H : Hp} {env : DL.Env} {S : Store} {i : Nat}
theorem get_set_none {l : L2.St} {i j : Nat} {y : V} (h : (l.set i none)[j]? = some (some y)) : i ≠ j ∧ l[j]? = some (some y) := by
  rcases get_set h with ⟨_, e⟩ | h
  · cases e
  · exact h
/-- a name goes -/
theorem Rel.clear (r : Rel K G W σ H env S) (i : Nat) : Rel K G W (σ.set i none) H (env.set i .non) S where
  g := r.g
  len := by rw [List.length_set, List.length_set]; exact r.len
  fz := r.fz
  sc := r.sc
  sl := r.sl
  st := r.st
  inj := r.inj
  va := fun j d e => by
    rcases get_set e with ⟨_, q⟩ | ⟨hne, q⟩
    · cases q
    · rw [List.getElem?_set_ne hne]; exact r.va j d q
  ow := fun j xs e => by
    rcases get_set e with ⟨_, q⟩ | ⟨hne, q⟩
    · cases q
    · rw [List.getElem?_set_ne hne]; exact r.ow j xs q
  sep := fun j k xs ys a e1 e2 s1 s2 => by
    rcases get_set e1 with ⟨_, q⟩ | ⟨_, q1⟩
    · cases q
    · rcases get_set e2 with ⟨_, q⟩ | ⟨_, q2⟩
      · cases q
      · exact r.sep j k xs ys a q1 q2 (get_set_none s1).2 (get_set_none s2).2
theorem owned_clear {a : Addr} (h : Owned (env.set i .non) (σ.set i none) a) : Owned env σ a := by
  obtain ⟨j, xs, e, q⟩ := h
  rcases get_set e with ⟨_, z⟩ | ⟨_, z⟩
  · cases z
  · exact ⟨j, xs, z, (get_set_none q).2⟩
theorem Aft.clear : Aft W σ H env W (σ.set i none) H (env.set i .non) :=
  ⟨.refl W, fun b o h _ _ => h, fun b h => h, fun b h => .inl h, fun b h => .inl h, fun b h => .inl (owned_clear h)⟩
end
section
variable {G : Glb} {X : Cx} {Wx : WX} {x n y : Str} {c : Value} {i j : Nat} {body : List Stmt} {np p1 p2 p3 pos pos' : Pos} {sm : SM} {ok : List Nat}
theorem ds_tryK (hb : ∀ (Wx : WX) (pn : List (Addr × Obj)) (xe : Value → Shared → Prop), Takes (X.tr pn xe) Wx → DSs G (X.tr pn xe) Wx body sm) (hex : ∀ c' ∈ ok, PySem.W.exmOne X.K (.ref (G.cls c')) c = some true) (hc : Names X x c)
    (hN : X.N.Nodup) (hs : X.stack = X.env :: X.outer := by rfl) (hf : X.env.frame = some X.env.locals := by rfl) (hi : X.N[i]? = some n := by rfl) (hln : X.env.kindOf n = some .local := by rfl) (hj : X.N[j]? = some y := by rfl) (hly : X.env.kindOf y = some .local := by rfl) (hij : i ≠ j := by decide)
    (hsw : swapsWithSole [(.Name y p1)] (.Name n p2) p3.line X.env = pure false := by rfl) (hdb : (n == ("__debug__" : Str)) = false := by decide) (hcd : (n == ("__classdict__" : Str)) = false := by decide) :
    DS G X Wx (.Try body [.ExceptHandler (some (.Name x np)) (some n) [.Assign [.Name y p1] (.Name n p2) p3] pos'] [] [] pos) (sTryK i j ok sm) := by
  refine ⟨_, ps_try_keep (tb := fun W => tSs X.K G W sm) hs hf hN hi hln hj hly hij hc hsw hdb hcd (fun W pn xe tk _ => (hb W pn xe tk).can), fun W σ H env S Dn r h => ⟨W, env, S, r, ?_⟩⟩
  unfold sTryK at h
  cases hm : sm env S with
  | nx e S' => rw [hm] at h; exact h
  | rt d S' => rw [hm] at h; exact h
  | bk e S' => rw [hm] at h; exact h
  | ct e S' => rw [hm] at h; exact h
  | stuck => rw [hm] at h; exact h.elim
  | exc c' e S' =>
    rw [hm] at h
    dsimp only at h
    split at h
    · rename_i hok
      intro W1 σ1 H1 A r1
      refine ⟨hex c' (by simpa using hok), rfl, G.cls c', rfl, fun a na => ?_⟩
      have z1 : ZOk W1.g (upd H1 a (.ext (ExcAt (G.cls c') a))) a (.exc c') := by rw [r1.g]; exact upd_same
      have r2 := r1.newZ (z := .exc c') na z1
      have A2 : Aft W1 σ1 H1 e (W1.addZ a (.exc c')) σ1 (upd H1 a (.ext (ExcAt (G.cls c') a))) e := Aft.newZ (z := .exc c') r1 na
      have rp : Rep (W1.addZ a (.exc c')) (.exc c') (.ref a) := ⟨a, rfl, Wd.addZ_same W1 a _⟩
      have r3 := ((r2.store rp i).store rp j).clear i
      have A3 := ((A.trans A2).trans (Aft.store (i := i) (o := some (.ref a)) (x := .exc c'))).trans ((Aft.store (i := j) (o := some (.ref a)) (x := .exc c')).trans (Aft.clear (i := i)))
      have ee : ((e.set i (.val (.exc c'))).set j (.val (.exc c'))).set i .non = (e.set j (.val (.exc c'))).set i .non := by
        rw [List.set_comm _ _ hij, List.set_set]
      rw [ee] at r3 A3
      exact h _ _ _ A3 r3
    · exact h.elim
end
end DL

set_option Elab.async false
set_option linter.all false
set_option maxRecDepth 100000
set_option maxHeartbeats 4000000
/-! DL23: defs as values; isinstance of a caught exception; l.index(x), l.count(x). -/
namespace DL
open PySem PySem.Spec PyProof.Rows L2
section
variable {X : Cx} {CX : CXT} {fe e : Expr} {es : List Expr} {tf : TE} {t : TA} {pos : Pos} {E : L2.St → XK}
/-- a call of what an expression gives: a def, with its promise -/
theorem pe_callF {Sf : Addr → Sp → Prop} (hf : PE X fe tf) (A : ∀ f sp, Sf f sp → ∃ k fd ps, FnOk X.prog X.w X.K X.mg X.base CX k f fd ps sp ∧ Room k X.A ∧ PySem.W.keepIn X.K (.ref f) = true ∧ Binds X.K fd ps []) (hx : ∀ σ, PassesAt CX X σ (E σ)) (ha : PA X (e :: es) t)
    (ht : eval (.Call fe (e :: es) [] pos) X.env = (do callWith pos (← eval fe X.env) [] (backTo pos (starEach (e :: es) X.env)) (backToKw pos (keywordEach [] X.env))))
    (he : starEach (e :: es) X.env = (false, eval e X.env) :: starEach es X.env) (hpl : (backTo pos (starEach es X.env)).any (·.1) = false) :
    PE X (.Call fe (e :: es) [] pos) (fun σ H Q => tf σ H fun y H1 => ∃ f sp, y = .ref f ∧ Sf f sp ∧ t σ H1 fun vs H2 => sp vs H2 Q (E σ)) := by
  refine ⟨fun pins s σ H Q I h => ?_⟩
  refine Call_ (thn (hf.run pins s σ H _ I h) fun u s1 ⟨y, H1, I1, ry, f, sp, ey, hS, q⟩ => ?_) ht
  subst ey
  obtain rfl : u = Value.ref f := ry
  obtain ⟨k, fd, ps, F, hr, hk, hb⟩ := A f sp hS
  refine PySem.W.callWith_K (h₀ := X.base) I.ok.mod.kin hk (thn (ha.run pos pins s1 σ H1 _ I1 q) fun us s2 ⟨vs, H2, I2, r, q2⟩ => ⟨I2.kIn, ?_⟩) he hpl
  exact run_fnS F hr hb (hx σ) I2 r q2
end
section
variable {G : Glb} {X : Cx} {Wx : WX} {fe e o a : Expr} {es : List Expr} {f g ff : EM} {fa : AM} {pos p : Pos} {n j : Nat}
/-- a def of the module as a value -/
structure Gv (mg : Str → Option Value) (G : Glb) (x : Str) (k : Nat) : Prop where
  ex : ∃ a, mg x = some (.ref a) ∧ G.glb k = .ref a
theorem dp_gv {x : Str} {k : Nat} (v : Gv X.mg G x k) (hg : Gl X x := by rfl) (hd : (x == ("__debug__" : Str)) = false := by decide) : DP G X Wx (.Name x pos) (dC (.glb k)) := by
  obtain ⟨a, h1, h2⟩ := v.ex
  exact dp_glb hg h1 (by rw [h2]; rfl) hd
theorem dp_callF {tbl : List (Nat × Fn)} (hf : DP G X Wx fe ff) (htb : ∀ k F, tblAt tbl k = some F → ∃ x lv, FnD X.prog X.w X.K X.mg X.base G x lv n F ∧ Gv X.mg G x k ∧ lv ≤ j) (hr : Room j X.A) (T : Takes X Wx) (ha : DA G X Wx (e :: es) fa) (hn : (e :: es).length = n := by rfl)
    (ht : eval (.Call fe (e :: es) [] pos) X.env = (do callWith pos (← eval fe X.env) [] (backTo pos (starEach (e :: es) X.env)) (backToKw pos (keywordEach [] X.env))) := by rfl)
    (he : starEach (e :: es) X.env = (false, eval e X.env) :: starEach es X.env := by rfl) (hpl : (backTo pos (starEach es X.env)).any (·.1) = false := by rfl) :
    DP G X Wx (.Call fe (e :: es) [] pos) (dCallF tbl ff fa) := by
  obtain ⟨tf, pf, qf⟩ := hf
  obtain ⟨len, t, pt, q⟩ := ha
  refine ⟨_, pe_callF (Sf := fun f sp => ∃ k F, tblAt tbl k = some F ∧ G.glb k = .ref f ∧ sp = spD X.K G n F) pf (fun f sp ⟨k, F, h1, h2, h3⟩ => ?_) (fun σ => passAt T σ) pt ht he hpl, fun W σ H env S Q r h => ?_⟩
  · obtain ⟨x, lv, c, v, hl⟩ := htb k F h1
    obtain ⟨f', fd, ps, Fo, hm, hk, hb⟩ := c.ex
    obtain ⟨a, g1, g2⟩ := v.ex
    rw [hm] at g1; cases g1
    rw [h2] at g2; cases g2
    subst h3
    exact ⟨lv, fd, ps, Fo, hr.mono hl, hk, hb⟩
  · refine qf W σ H env S _ r (Post.seq h fun d1 e1 S1 W1 H1 v1 A1 r1 q1 h1 => ?_)
    split at h1
    · rename_i k
      split at h1
      · rename_i F hF
        obtain ⟨x, lv, c, v, hl⟩ := htb k F hF
        obtain ⟨a, g1, g2⟩ := v.ex
        have ev : v1 = .ref a := by
          have : v1 = W1.g.glb k := q1
          rw [this, r1.g, g2]
        refine ⟨a, _, ev, ⟨k, F, hF, g2, rfl⟩, q W1 σ H1 e1 S1 _ r1 ?_⟩
        unfold dCall at h1
        cases hf : fa e1 S1 with
        | ok ds e' S' =>
          rw [hf] at h1
          intro W2 H2 vs A r2 hx
          refine ⟨W2, ds, S', r2.drop, hx, by rw [len _ _ _ _ _ hf]; exact hn, ?_⟩
          have h' : Post X.K G RP Wx W1 σ H1 e1 Q (match F ds S' with | .ok d S => .ok d e' S | .exc c S => .exc c e' S | .stuck => .stuck) := h1
          cases hF2 : F ds S' with
          | ok d S2 => rw [hF2] at h'; exact fun W3 H3 v A3 r3 q3 => h' W3 H3 v (A.trans A3.back) (r2.back A3 r3) q3
          | exc c S2 => rw [hF2] at h'; exact fun W3 H3 A3 r3 => h' W3 H3 (A.trans A3.back) (r2.back A3 r3)
          | stuck => rw [hF2] at h'; exact h'.elim
        | exc c e' S' => rw [hf] at h1; exact h1
        | stuck => rw [hf] at h1; exact h1
      · exact h1.elim
    · exact h1.elim
/-! ## isinstance -/
/-- isinstance(e, c), e a caught exception that is kept -/
def rIsX (K : PySem.W.Frag) : List V → Hp → VK → Prop := fun xs H Q => ∃ (a D : Addr) (c : V) (cv : Value) (b : Bool), xs = [.ref a, c] ∧ ExcC K D ∧ H a = some (.ext (ExcAt D a)) ∧ (∀ u, RelV c u → u = cv) ∧ PySem.W.kitOne K (.ref D) cv = some b ∧ Q (.bl b) H
theorem call_isX : CallR X (.builtin "isinstance") (rIsX X.K) := by
  intro pins s σ H xs us Q I r h
  obtain ⟨a, D, c, cv, b, rfl, C, ha, hcv, e, q⟩ := h
  cases r with
  | cons rx rr =>
    cases rr with
    | cons rt rr =>
      cases rr
      cases rx
      have ec := hcv _ rt
      subst ec
      obtain ⟨⟨oe, J⟩, _, _⟩ := I.hok a _ ha
      exact PySem.W.kia_one (PySem.W.handS_kitx_exc C.hg C.hk C.hs C.hd C.ha C.hn C.ht C.hm) I.kIn J e (fun z => nomatch z) fun tk => ⟨.bl b, H, I.kept (t' := tk) fun _ _ z => z, rfl, q⟩
theorem dp_isE {ok : List Nat} {x : Str} {m : Nat} {p2 : Pos} (hm : X.mg "isinstance" = none) (hc : Ec X.K X.mg G x m) (hC : ∀ c ∈ ok, ExcC X.K (G.cls c) ∧ PySem.W.kitOne X.K (.ref (G.cls c)) (.ref (G.cls m)) = some (c == m)) (ha : DP G X Wx a f) (hg : Gl X "isinstance" := by rfl) (hg2 : Gl X x := by rfl) (hd : (x == ("__debug__" : Str)) = false := by decide)
    (he : starEach [a, .Name x p2] X.env = (false, eval a X.env) :: starEach [.Name x p2] X.env := by rfl) (he2 : starEach [.Name x p2] X.env = (false, eval (.Name x p2) X.env) :: starEach [] X.env := by rfl) (hpl : (backTo pos (starEach [.Name x p2] X.env)).any (·.1) = false := by rfl) :
    DP G X Wx (.Call (.Name "isinstance" p) [a, .Name x p2] [] pos) (dB1 f (opIsE ok m)) := by
  obtain ⟨ta, pa, qa⟩ := ha
  refine ⟨_, pe_callB call_isX hg hm PyProof.Rows.boot_isinstance (pa_cons pa (pa_cons (pe_glob (v := .ref (G.cls m)) hg2 hc.g rfl hd) pa_nil he2) he) (by decide) (by decide) he hpl, fun W σ H env S Q r h => ?_⟩
  refine qa W σ H env S _ r (Post.seq h fun d1 e1 S1 W1 H1 v1 A1 r1 q1 h1 => ?_)
  have h1 : Post X.K G RP Wx W1 σ H1 e1 Q (match opIsE ok m (look e1 S1 d1) with | some r => .ok r e1 S1 | none => .stuck) := h1
  cases d1 with
  | exc c =>
    have h1 : Post X.K G RP Wx W1 σ H1 e1 Q (match (if ok.contains c then some (DL.D.bl (c == m)) else none) with | some r => .ok r e1 S1 | none => .stuck) := h1
    by_cases hok : ok.contains c = true
    · rw [if_pos hok] at h1
      obtain ⟨k1, k2⟩ := hC c (by simpa using hok)
      obtain ⟨b, e, hz⟩ := q1
      have z := (r1.fz b _ hz).1
      have z : H1 b = some (.ext (ExcAt (W1.g.cls c) b)) := z
      rw [r1.g] at z
      exact ⟨b, G.cls c, .ref (G.cls m), _, _, by rw [e], k1, z, fun u hu => hu, k2, h1 W1 H1 _ .refl r1 rfl⟩
    · rw [if_neg hok] at h1; exact h1.elim
  | loc i => exact q1.elim
  | ref i =>
    have hn : opIsE ok m (look e1 S1 (.ref i)) = none := by unfold look; dsimp only; split <;> rfl
    rw [hn] at h1
    exact h1.elim
  | _ => exact h1.elim
theorem dp_isVE {ok : List Nat} {p2 : Pos} (hm : X.mg "isinstance" = none) (hm2 : X.mg "ValueError" = none) (hC : ∀ c ∈ ok, ExcC X.K (G.cls c) ∧ PySem.W.kitOne X.K (.ref (G.cls c)) (.type "ValueError") = some true) (ha : DP G X Wx a f) (hg : Gl X "isinstance" := by rfl) (hg2 : Gl X "ValueError" := by rfl)
    (he : starEach [a, .Name "ValueError" p2] X.env = (false, eval a X.env) :: starEach [.Name "ValueError" p2] X.env := by rfl) (he2 : starEach [.Name "ValueError" p2] X.env = (false, eval (.Name "ValueError" p2) X.env) :: starEach [] X.env := by rfl) (hpl : (backTo pos (starEach [.Name "ValueError" p2] X.env)).any (·.1) = false := by rfl) :
    DP G X Wx (.Call (.Name "isinstance" p) [a, .Name "ValueError" p2] [] pos) (dB1 f (opIsVE ok)) := by
  obtain ⟨ta, pa, qa⟩ := ha
  refine ⟨_, pe_callB call_isX hg hm PyProof.Rows.boot_isinstance (pa_cons pa (pa_cons (pe_bltn (v := .ty "ValueError") hg2 hm2 (by decide +kernel) rfl (by decide) (by decide)) pa_nil he2) he) (by decide) (by decide) he hpl, fun W σ H env S Q r h => ?_⟩
  refine qa W σ H env S _ r (Post.seq h fun d1 e1 S1 W1 H1 v1 A1 r1 q1 h1 => ?_)
  have h1 : Post X.K G RP Wx W1 σ H1 e1 Q (match opIsVE ok (look e1 S1 d1) with | some r => .ok r e1 S1 | none => .stuck) := h1
  cases d1 with
  | exc c =>
    have h1 : Post X.K G RP Wx W1 σ H1 e1 Q (match (if ok.contains c then some (DL.D.bl true) else none) with | some r => .ok r e1 S1 | none => .stuck) := h1
    by_cases hok : ok.contains c = true
    · rw [if_pos hok] at h1
      obtain ⟨k1, k2⟩ := hC c (by simpa using hok)
      obtain ⟨b, e, hz⟩ := q1
      have z := (r1.fz b _ hz).1
      have z : H1 b = some (.ext (ExcAt (W1.g.cls c) b)) := z
      rw [r1.g] at z
      exact ⟨b, G.cls c, .ty "ValueError", _, _, by rw [e], k1, z, fun u hu => hu, k2, h1 W1 H1 _ .refl r1 rfl⟩
    · rw [if_neg hok] at h1; exact h1.elim
  | loc i => exact q1.elim
  | ref i =>
    have hn : opIsVE ok (look e1 S1 (.ref i)) = none := by unfold look; dsimp only; split <;> rfl
    rw [hn] at h1
    exact h1.elim
  | _ => exact h1.elim
/-! ## l.index(x), l.count(x) -/
def MD (G : Glb) (X : Cx) (id : String) (k : DL.D → DL.D → Option DL.D) : Prop := ∃ r, MtR X id r ∧ ∀ W σ H env S Q dl dx v x c, Rel X.K G W σ H env S → RepB W σ dl v → Rep W dx x → k (look env S dl) dx = some c → (∀ W' H' v, Aft W σ H env W' σ H' env → Rel X.K G W' σ H' env S → Rep W' c v → Q v H') → r v [x] H Q
theorem dp_m1 {k : DL.D → DL.D → Option DL.D} {name : Str} {id : String} {apos : Pos} (m : MD G X id k) (slot : Slot "list" name id) (hty : typeOf (.builtin id) = pure (.type "method_descriptor")) (ho : DE G X Wx o f) (he : DP G X Wx e g)
    (hbase : attributeBase o name X.env (eval o X.env) = eval o X.env := by rfl)
    (hfew : ((backTo pos (starEach [e] X.env)).all (fun x => !x.1) && (backToKw pos (keywordEach [] X.env)).all (fun x => x.1.isSome)
      && decide ([e].length + ([] : List Keyword).length + (if ([] : List Keyword).isEmpty then 0 else 1) < 30)) = true := by rfl)
    (hline : (apos.endLine == pos.line) = true := by rfl) (hs : starEach [e] X.env = (false, eval e X.env) :: starEach [] X.env := by rfl) (hplain : (backTo pos (starEach [] X.env)).any (·.1) = false := by rfl) :
    DP G X Wx (.Call (.Attribute o name apos) [e] [] pos) (dM1 f g k) := by
  obtain ⟨r, mr, hr⟩ := m
  obtain ⟨to, po, qo⟩ := ho
  obtain ⟨te, pe, qe⟩ := he
  refine ⟨_, pe_bm PySem.F.plainAttrs_list slot hty mr po (pa_cons pe pa_nil hs) hbase hfew hline hs hplain, fun W σ H env S Q r0 h => ?_⟩
  refine qo W σ H env S _ r0 (Post.seq h fun d1 e1 S1 W1 H1 v1 A1 r1 q1 h1 => ?_)
  split at h1
  · rename_i xs hx
    obtain ⟨a, vs, rfl, k1, k2⟩ := r1.lookL q1 hx
    refine ⟨.inl ⟨rfl, vs, .of k1⟩, qe W1 σ H1 e1 S1 _ r1 (Post.seq h1 fun d2 e2 S2 W2 H2 v2 A2 r2 q2 h2 => ?_)⟩
    split at h2
    · rename_i c hk
      exact hr W2 σ H2 e2 S2 Q d1 d2 _ v2 c r2 (q1.mono A2.le) q2 hk fun W' H' v A' r' q' => h2 W' H' v A' r' q'
    · exact h2.elim
  · exact h1.elim
theorem pys_get : ∀ {xs : List DL.D} {i : Nat}, (pys xs)[i]? = (xs[i]?).map py
  | [], _ => rfl
  | _ :: _, 0 => rfl
  | _ :: xs, i + 1 => by simpa [pys] using pys_get (xs := xs) (i := i)
theorem findEq_spec {x : DL.D} (hx : okd 8 x = true) : ∀ {ys : List DL.D} {n : Nat}, okds 8 ys = true → findEq x ys = some n → (∃ z, (pys ys)[n]? = some z ∧ PyData.eqv z (py x) = true) ∧ ∀ m z', m < n → (pys ys)[m]? = some z' → PyData.eqv z' (py x) = false
  | [], n, _, h => by cases h
  | y :: ys, n, hy, h => by
    have hy' : okd 8 y = true ∧ okds 8 ys = true := by
      have : (okd 8 y && okds 8 ys) = true := hy
      simpa using this
    have e := py_eqv y x hy'.1 hx
    unfold findEq at h
    cases hq : eqv y x with
    | true =>
      rw [hq] at h e
      cases h
      exact ⟨⟨py y, rfl, e⟩, fun m z' hm _ => absurd hm (Nat.not_lt_zero m)⟩
    | false =>
      rw [hq] at h e
      cases hf : findEq x ys with
      | none => rw [hf] at h; cases h
      | some k =>
        rw [hf] at h
        cases h
        obtain ⟨⟨z, h1, h2⟩, h3⟩ := findEq_spec hx hy'.2 hf
        refine ⟨⟨z, h1, h2⟩, fun m z' hm hz => ?_⟩
        cases m with
        | zero => cases hz; exact e
        | succ m => exact h3 m z' (Nat.lt_of_succ_lt_succ hm) hz
theorem md_index (hu : X.A.units + 65 < cLine) : MD G X "list.index" opIndex := by
  refine ⟨_, mt_indexD hu, fun W σ H env S Q dl dx v x c r hl hx hk hq => ?_⟩
  unfold opIndex at hk
  split at hk
  · rename_i ys hy
    split at hk
    · rename_i ho
      simp only [Bool.and_eq_true] at ho
      cases hf : findEq dx ys with
      | none => rw [hf] at hk; cases hk
      | some n =>
        rw [hf] at hk
        cases hk
        obtain ⟨⟨z, h1, h2⟩, h3⟩ := findEq_spec ho.2 ho.1 hf
        obtain ⟨a, vs, rfl, k1, k2⟩ := r.lookL hl hy
        have ol : okd 9 (.lst ys) = true := ho.1
        have dl1 : Dp X.K H (.ref a) (py (.lst ys)) := r.dpLook hl hy ol
        exact ⟨a, x, py dx, pys ys, n, z, rfl, rfl, dl1, r.dp dx ho.2 hx, py_shaped ol (by decide), py_shaped ho.2 (by decide), h1, h2, h3, fin0 r hq rfl⟩
    · cases hk
  · cases hk
def rCntB (K : PySem.W.Frag) : V → List V → Hp → VK → Prop := fun x xs H Q => ∃ (p : Addr) (ns : List Bool) (k : Bool), x = .ref p ∧ xs = [.bl k] ∧ SqL K H p (ns.map V.bl) ∧ Q (.int (ns.count k : Nat)) H
def eqB (k : Bool) (v : Value) : Bool := match v with
  | .bool n => n == k
  | _ => false
theorem mt_countB : MtR X "list.count" (rCntB X.K) := by
  intro pins s σ H x xs v us Q I rx rxs h
  obtain ⟨p, ns, k, rfl, rfl, hs, q⟩ := h
  cases rx
  obtain ⟨u, rfl, ru⟩ := rxs.one
  obtain rfl : u = Value.bool k := ru
  obtain ⟨its, rv, ⟨⟨cls, dd, data, sl⟩, n, ho, hc, hdn, hd⟩, hlen⟩ := I.list hs
  simp only at hc hd
  subst hc hd
  have hi : its = ns.map Value.bool := by
    have gen : ∀ (l : List Bool) (us : List Value), Vals (l.map V.bl) us → us = l.map Value.bool := by
      intro l
      induction l with
      | nil => intro us r; cases r; rfl
      | cons b l ih => intro us r; cases r with | cons r1 r2 => rw [ih _ r2]; cases r1; rfl
    exact gen ns its rv
  subst hi
  refine call_meets PySem.F.slot_list_count ⟨_, ho, rfl⟩ PySem.F.entry_list_count (PySem.F.args_list_count_2 _ _)
    (SeqAt.list_countAt p (ns.map Value.bool).toArray n dd sl (.bool k) (eqB k)) ⟨ho, fun y hy => ?_, ?_⟩
  · have hy' : y ∈ ns.map Value.bool := by simpa using hy
    obtain ⟨b, _, rfl⟩ := List.mem_map.mp hy'
    exact SeqAt.EqAt.bool_bool b k
  · have ec : (ns.map Value.bool).toArray.toList.countP (eqB k) = ns.count k := by
      show (ns.map Value.bool).countP (eqB k) = _
      rw [List.countP_map]; rfl
    refine ⟨.int (ns.count k : Nat), H, I.tok _, ⟨s.toks, ?_⟩, q⟩
    show Value.int (((ns.map Value.bool).toArray.toList.countP (eqB k) : Nat) : Int) s.toks = Value.int ((ns.count k : Nat) : Int) s.toks
    rw [ec]
theorem md_countB : MD G X "list.count" opCntB := by
  refine ⟨_, mt_countB, fun W σ H env S Q dl dx v x c r hl hx hk hq => ?_⟩
  unfold opCntB at hk
  split at hk
  · rename_i ys b hy
    split at hk
    · rename_i bs e
      cases hk
      obtain ⟨a, vs, rfl, k1, k2⟩ := r.lookL hl hy
      have g := k2.bls e
      subst g
      cases (show x = V.bl b from hx)
      exact ⟨a, bs, b, rfl, rfl, .of k1, fin0 r hq rfl⟩
    · cases hk
  · cases hk
end
end DL

set_option Elab.async false
set_option linter.all false
set_option maxRecDepth 100000
set_option maxHeartbeats 4000000
/-! DL24: the classes of errors, told together. -/
namespace DL
open PySem PySem.Spec PyProof.Rows L2
/-- what a class of the module says of its place among the classes -/
structure ClsF (K : PySem.W.Frag) (C W : Addr) : Prop where
  ex : ∃ od cd sl, K.lookup C = some ⟨.type "type", od, .cls cd, sl⟩ ∧ cd.mro = [.ref C, .ref W, .type "ValueError", .type "Exception", .type "BaseException", .type "object"]
theorem ClsF.mk' {K : PySem.W.Frag} {C W : Addr} {od : Option Addr} {sl : Array (Option Value)} {nm qn : Str} {bs : List Value} {ns : Addr} {hd : Bool} {sn : Option (List Str)} {sub : List Addr} {x1 x2 x3 : Bool} {cd : ClassData}
    (h : K.lookup C = some ⟨.type "type", od, .cls cd, sl⟩) (hm : cd.mro = [.ref C, .ref W, .type "ValueError", .type "Exception", .type "BaseException", .type "object"]) : ClsF K C W := ⟨od, cd, sl, h, hm⟩
section
variable {K : PySem.W.Frag} {C D W : Addr}
theorem ClsF.clsIn (h : ClsF K C W) : ∃ cd, PySem.W.clsIn K C = some cd ∧ cd.mro = [.ref C, .ref W, .type "ValueError", .type "Exception", .type "BaseException", .type "object"] := by
  obtain ⟨od, cd, sl, h1, h2⟩ := h.ex
  exact ⟨cd, by unfold PySem.W.clsIn; rw [h1], h2⟩
theorem ClsF.typeIn (h : ClsF K C W) : PySem.W.typeIn K (.ref C) = some (.type "type") := by
  obtain ⟨od, cd, sl, h1, h2⟩ := h.ex
  show (K.lookup C).map (·.cls) = _
  rw [h1]; rfl
theorem ClsF.mroIn (h : ClsF K C W) (b : Value) : PySem.W.mroIn K C b = some ([.ref C, .ref W, .type "ValueError", .type "Exception", .type "BaseException", .type "object"].contains b) := by
  obtain ⟨cd, h1, h2⟩ := h.clsIn
  unfold PySem.W.mroIn
  rw [h1]
  show (if cd.mro.isEmpty then none else some (cd.mro.contains b)) = _
  rw [h2]; rfl
theorem ClsF.sub (h : ClsF K C W) (b : Value) : PySem.W.subIn K (.ref C) b = some ([.ref C, .ref W, .type "ValueError", .type "Exception", .type "BaseException", .type "object"].contains b) := h.mroIn b
theorem ref_beq (a b : Addr) : ((Value.ref a : Value) == Value.ref b) = (a == b) := by
  rw [Bool.eq_iff_iff, beq_iff_eq, beq_iff_eq]
  exact ⟨fun h => by cases h; rfl, fun h => by rw [h]⟩
theorem kit_own (h : ClsF K C W) (h' : ClsF K D W) (hw : D ≠ W) : PySem.W.kitOne K (.ref C) (.ref D) = some (C == D) := by
  unfold PySem.W.kitOne
  rw [ref_beq]
  by_cases e : C = D
  · subst e; simp
  · have e1 : (C == D) = false := by simpa using e
    rw [e1, if_neg Bool.false_ne_true]
    unfold PySem.W.kitCls
    obtain ⟨cd, k1, k2⟩ := h'.clsIn
    dsimp only
    rw [k1, h'.typeIn, if_pos (by simp), h.sub]
    have e2 : (D == C) = false := by simpa using fun z => e z.symm
    have e3 : (D == W) = false := by simpa using hw
    simp only [List.contains_cons, ref_beq, e2, e3]
    rfl
theorem kit_ve (h : ClsF K C W) : PySem.W.kitOne K (.ref C) (.type "ValueError") = some true := by
  unfold PySem.W.kitOne
  have e1 : ((Value.ref C : Value) == Value.type "ValueError") = false := rfl
  rw [e1, if_neg Bool.false_ne_true]
  unfold PySem.W.kitCls
  dsimp only
  rw [if_pos (show PySem.W.kitMeta "ValueError" = true by decide +kernel), h.sub]
  simp only [List.contains_cons]
  rfl
theorem exm_w (h : ClsF K C W) (hs : PySem.W.subIn K (.ref W) (.type "BaseException") = some true) (hc : (PySem.W.clsIn K W).isSome = true) (ht : PySem.W.typeIn K (.ref W) = some (.type "type")) : PySem.W.exmOne K (.ref C) (.ref W) = some true := by
  unfold PySem.W.exmOne
  rw [hs, if_pos (by simp)]
  unfold PySem.W.kitCls
  dsimp only
  rw [hc, ht, if_pos (by simp), h.sub]
  simp only [List.contains_cons, ref_beq, BEq.rfl]
  simp
end
structure XOk (K : PySem.W.Frag) (C W : Addr) : Prop where
  e : ExcC K C
  l : ClsF K C W
structure ExcAll (K : PySem.W.Frag) (mg : Str → Option Value) (G : Glb) : Prop where
  all : ∀ c ∈ okL, XOk K (G.cls c) (G.cls 0)
  inj : ∀ c ∈ okL, ∀ m ∈ okL, G.cls c = G.cls m → c = m
  ne : ∀ m ∈ okL, G.cls m ≠ G.cls 0
  g0 : mg "WeighError" = some (.ref (G.cls 0))
  s0 : PySem.W.subIn K (.ref (G.cls 0)) (.type "BaseException") = some true
  c0 : (PySem.W.clsIn K (G.cls 0)).isSome = true
  t0 : PySem.W.typeIn K (.ref (G.cls 0)) = some (.type "type")
section
variable {K : PySem.W.Frag} {mg : Str → Option Value} {G : Glb}
theorem ExcAll.isE (A : ExcAll K mg G) {m : Nat} (hm : m ∈ okL) : ∀ c ∈ okL, ExcC K (G.cls c) ∧ PySem.W.kitOne K (.ref (G.cls c)) (.ref (G.cls m)) = some (c == m) := fun c hc => by
  refine ⟨(A.all c hc).e, ?_⟩
  rw [kit_own (A.all c hc).l (A.all m hm).l (A.ne m hm)]
  congr 1
  rw [Bool.eq_iff_iff, beq_iff_eq, beq_iff_eq]
  exact ⟨A.inj c hc m hm, fun e => by rw [e]⟩
theorem ExcAll.isVE (A : ExcAll K mg G) : ∀ c ∈ okL, ExcC K (G.cls c) ∧ PySem.W.kitOne K (.ref (G.cls c)) (.type "ValueError") = some true := fun c hc => ⟨(A.all c hc).e, kit_ve (A.all c hc).l⟩
theorem ExcAll.ex (A : ExcAll K mg G) : ∀ c ∈ okL, PySem.W.exmOne K (.ref (G.cls c)) (.ref (G.cls 0)) = some true := fun c hc => exm_w (A.all c hc).l A.s0 A.c0 A.t0
end
theorem ds_tryW {G : Glb} {X : Cx} {Wx : WX} {n y : Str} {i j : Nat} {body : List Stmt} {np p1 p2 p3 pos pos' : Pos} {sm : SM} (A : ExcAll X.K X.mg G) (hN : X.N.Nodup) (hb : ∀ (Wx : WX) (pn : List (Addr × Obj)) (xe : Value → Shared → Prop), Takes (X.tr pn xe) Wx → DSs G (X.tr pn xe) Wx body sm) (hg : Gl X "WeighError" := by rfl)
    (hs : X.stack = X.env :: X.outer := by rfl) (hf : X.env.frame = some X.env.locals := by rfl) (hi : X.N[i]? = some n := by rfl) (hln : X.env.kindOf n = some .local := by rfl) (hj : X.N[j]? = some y := by rfl) (hly : X.env.kindOf y = some .local := by rfl) (hij : i ≠ j := by decide)
    (hsw : swapsWithSole [(.Name y p1)] (.Name n p2) p3.line X.env = pure false := by rfl) (hdb : (n == ("__debug__" : Str)) = false := by decide) (hcd : (n == ("__classdict__" : Str)) = false := by decide) :
    DS G X Wx (.Try body [.ExceptHandler (some (.Name "WeighError" np)) (some n) [.Assign [.Name y p1] (.Name n p2) p3] pos'] [] [] pos) (sTryK i j okL sm) :=
  ds_tryK hb A.ex ⟨hg, by decide, .inl A.g0⟩ hN hs hf hi hln hj hly hij hsw hdb hcd
/-- the classes of the module, by name -/
inductive AllX (K : PySem.W.Frag) (W : Addr) : List Str → List Addr → Prop
  | nil : AllX K W [] []
  | cons {x : Str} {C : Addr} {xs : List Str} {Cs : List Addr} (a : PySem.W.nsIn K mainGlobals x = some (some (.ref C))) (o : XOk K C W) (r : AllX K W xs Cs) : AllX K W (x :: xs) (C :: Cs)
theorem AllX.get {K : PySem.W.Frag} {W : Addr} : ∀ {xs : List Str} {Cs : List Addr}, AllX K W xs Cs → ∀ i, i < xs.length → ∃ C, Cs[i]? = some C ∧ clsAt K (xs.getD i "") = C ∧ XOk K C W
  | _, _, .cons a o r, 0, _ => ⟨_, rfl, clsAt_of a, o⟩
  | _, _, .cons a o r, i + 1, h => by
    obtain ⟨C, h1, h2, h3⟩ := r.get i (by simpa using h)
    exact ⟨C, by simpa using h1, by simpa using h2, h3⟩
theorem okL_get : ∀ c ∈ okL, ∃ i, i < 20 ∧ c = i + 1 := by decide
theorem excAll_mk {K : PySem.W.Frag} {h : Heap} {mg : Str → Option Value} {names xs : List Str} {G : Glb} {W : Addr} {Cs : List Addr} (X : K.In h) (N : h.Ns mainGlobals mg) (hG : ∀ c, G.cls c = clsAt K (names.getD c "")) (h0 : names.getD 0 "" = "WeighError") (hl : xs.length = 20) (hx : ∀ i, i < 20 → names.getD (i + 1) "" = xs.getD i "")
    (nd : (W :: Cs).Nodup) (a : PySem.W.nsIn K mainGlobals "WeighError" = some (some (.ref W))) (s : PySem.W.subIn K (.ref W) (.type "BaseException") = some true) (c : (PySem.W.clsIn K W).isSome = true) (t : PySem.W.typeIn K (.ref W) = some (.type "type")) (A : AllX K W xs Cs) : ExcAll K mg G := by
  have e0 : G.cls 0 = W := by rw [hG, h0]; exact clsAt_of a
  have key : ∀ i, i < 20 → Cs[i]? = some (G.cls (i + 1)) ∧ XOk K (G.cls (i + 1)) W := fun i hi => by
    obtain ⟨C, h1, h2, h3⟩ := A.get i (by omega)
    have : G.cls (i + 1) = C := by rw [hG, hx i hi]; exact h2
    rw [this]; exact ⟨h1, h3⟩
  obtain ⟨nd0, nd1⟩ := List.nodup_cons.mp nd
  refine ⟨fun c hc => ?_, fun c hc m hm e => ?_, fun m hm e => ?_, ?_, ?_, ?_, ?_⟩
  · obtain ⟨i, hi, rfl⟩ := okL_get c hc
    rw [e0]; exact (key i hi).2
  · obtain ⟨i, hi, rfl⟩ := okL_get c hc
    obtain ⟨j, hj, rfl⟩ := okL_get m hm
    have k1 := (key i hi).1
    have k2 := (key j hj).1
    rw [e] at k1
    have hlt : i < Cs.length := by
      rcases Nat.lt_or_ge i Cs.length with z | z
      · exact z
      · rw [List.getElem?_eq_none z] at k1; cases k1
    have : i = j := (List.getElem?_inj hlt nd1).mp (k1.trans k2.symm)
    omega
  · obtain ⟨i, hi, rfl⟩ := okL_get m hm
    have k1 := (key i hi).1
    rw [e, e0] at k1
    exact nd0 (List.mem_of_getElem? k1)
  · rw [e0]; exact PySem.W.mg_of X N a
  · rw [e0]; exact s
  · rw [e0]; exact c
  · rw [e0]; exact t
end DL
namespace DL
open PySem PySem.Spec PyProof.Rows L2
section
variable {G : Glb} {X : Cx} {Wx : WX} {fe e o a : Expr} {es : List Expr} {f g ff : EM} {fa : AM} {pos p : Pos} {n j : Nat}
/-! ## defs as values -/
def TB (G : Glb) (P : Program) (w : World) (K : PySem.W.Frag) (mg : Str → Option Value) (base : Heap) (n j : Nat) (tbl : List (Nat × Fn)) : Prop := ∀ k F, tblAt tbl k = some F → ∃ x lv, FnD P w K mg base G x lv n F ∧ Gv mg G x k ∧ lv ≤ j
section
variable {P : Program} {w : World} {K : PySem.W.Frag} {mg : Str → Option Value} {base : Heap}
theorem tb_nil : TB G P w K mg base n j [] := fun k F h => by cases h
theorem tb_cons {x : Str} {lv k : Nat} {F : Fn} {tbl : List (Nat × Fn)} (c : FnD P w K mg base G x lv n F) (v : Gv mg G x k) (r : TB G P w K mg base n j tbl) (hl : lv ≤ j := by decide) : TB G P w K mg base n j ((k, F) :: tbl) := fun k' F' h => by
  unfold tblAt at h
  split at h
  · rename_i e
    dsimp only at e
    subst e
    cases h
    exact ⟨x, lv, c, v, hl⟩
  · exact r k' F' h
end
theorem dp_callT {tbl : List (Nat × Fn)} (j : Nat) (hr : Room j X.A) (T : Takes X Wx) (hf : DP G X Wx fe ff) (htb : TB G X.prog X.w X.K X.mg X.base n j tbl) (ha : DA G X Wx (e :: es) fa) (hn : (e :: es).length = n := by rfl)
    (ht : eval (.Call fe (e :: es) [] pos) X.env = (do callWith pos (← eval fe X.env) [] (backTo pos (starEach (e :: es) X.env)) (backToKw pos (keywordEach [] X.env))) := by rfl)
    (he : starEach (e :: es) X.env = (false, eval e X.env) :: starEach es X.env := by rfl) (hpl : (backTo pos (starEach es X.env)).any (·.1) = false := by rfl) :
    DP G X Wx (.Call fe (e :: es) [] pos) (dCallF tbl ff fa) := dp_callF hf htb hr T ha hn ht he hpl
theorem gv_mk {K : PySem.W.Frag} {h : Heap} {mg : Str → Option Value} {x : Str} {f : Addr} {k : Nat} {vals : List Str} (X : K.In h) (N : h.Ns mainGlobals mg) (hG : G.glb k = .ref (clsAt K (vals.getD k ""))) (hx : vals.getD k "" = x) (a : PySem.W.nsIn K mainGlobals x = some (some (.ref f))) : Gv mg G x k :=
  ⟨f, PySem.W.mg_of X N a, by rw [hG, hx, clsAt_of a]⟩
/-! ## index, count -/
theorem dp_index {apos : Pos} (hu : X.A.units + 65 < cLine) (ho : DE G X Wx o f) (he : DP G X Wx e g)
    (hbase : attributeBase o "index" X.env (eval o X.env) = eval o X.env := by rfl)
    (hfew : ((backTo pos (starEach [e] X.env)).all (fun x => !x.1) && (backToKw pos (keywordEach [] X.env)).all (fun x => x.1.isSome)
      && decide ([e].length + ([] : List Keyword).length + (if ([] : List Keyword).isEmpty then 0 else 1) < 30)) = true := by rfl)
    (hline : (apos.endLine == pos.line) = true := by rfl) (hs : starEach [e] X.env = (false, eval e X.env) :: starEach [] X.env := by rfl) (hplain : (backTo pos (starEach [] X.env)).any (·.1) = false := by rfl) :
    DP G X Wx (.Call (.Attribute o "index" apos) [e] [] pos) (dM1 f g opIndex) := dp_m1 (md_index hu) PySem.F.slot_list_index PySem.F.type_list_index ho he hbase hfew hline hs hplain
theorem dp_countB {apos : Pos} (ho : DE G X Wx o f) (he : DP G X Wx e g)
    (hbase : attributeBase o "count" X.env (eval o X.env) = eval o X.env := by rfl)
    (hfew : ((backTo pos (starEach [e] X.env)).all (fun x => !x.1) && (backToKw pos (keywordEach [] X.env)).all (fun x => x.1.isSome)
      && decide ([e].length + ([] : List Keyword).length + (if ([] : List Keyword).isEmpty then 0 else 1) < 30)) = true := by rfl)
    (hline : (apos.endLine == pos.line) = true := by rfl) (hs : starEach [e] X.env = (false, eval e X.env) :: starEach [] X.env := by rfl) (hplain : (backTo pos (starEach [] X.env)).any (·.1) = false := by rfl) :
    DP G X Wx (.Call (.Attribute o "count" apos) [e] [] pos) (dM1 f g opCntB) := dp_m1 md_countB PySem.F.slot_list_count PySem.F.type_list_count ho he hbase hfew hline hs hplain
theorem dp_isO {x : Str} {m : Nat} {p2 : Pos} (A : ExcAll X.K X.mg G) (hm : X.mg "isinstance" = none) (hc : Ec X.K X.mg G x m) (ha : DP G X Wx a f) (hmo : m ∈ okL := by decide) (hg : Gl X "isinstance" := by rfl) (hg2 : Gl X x := by rfl) (hd : (x == ("__debug__" : Str)) = false := by decide)
    (he : starEach [a, .Name x p2] X.env = (false, eval a X.env) :: starEach [.Name x p2] X.env := by rfl) (he2 : starEach [.Name x p2] X.env = (false, eval (.Name x p2) X.env) :: starEach [] X.env := by rfl) (hpl : (backTo pos (starEach [.Name x p2] X.env)).any (·.1) = false := by rfl) :
    DP G X Wx (.Call (.Name "isinstance" p) [a, .Name x p2] [] pos) (dB1 f (opIsE okL m)) := dp_isE hm hc (A.isE hmo) ha hg hg2 hd he he2 hpl
theorem dp_isV {p2 : Pos} (A : ExcAll X.K X.mg G) (hm : X.mg "isinstance" = none) (hm2 : X.mg "ValueError" = none) (ha : DP G X Wx a f) (hg : Gl X "isinstance" := by rfl) (hg2 : Gl X "ValueError" := by rfl)
    (he : starEach [a, .Name "ValueError" p2] X.env = (false, eval a X.env) :: starEach [.Name "ValueError" p2] X.env := by rfl) (he2 : starEach [.Name "ValueError" p2] X.env = (false, eval (.Name "ValueError" p2) X.env) :: starEach [] X.env := by rfl) (hpl : (backTo pos (starEach [.Name "ValueError" p2] X.env)).any (·.1) = false := by rfl) :
    DP G X Wx (.Call (.Name "isinstance" p) [a, .Name "ValueError" p2] [] pos) (dB1 f (opIsVE okL)) := dp_isVE hm hm2 A.isVE ha hg hg2 he he2 hpl
end
def glbOf2 (names vals : List Str) (K : PySem.W.Frag) : Glb := ⟨fun c => clsAt K (names.getD c ""), fun k => .ref (clsAt K (vals.getD k "")), fun _ => ""⟩
theorem ec_mk2 {K : PySem.W.Frag} {h : Heap} {mg : Str → Option Value} {x : Str} {C : Addr} {c : Nat} {G : Glb} {names : List Str} (X : K.In h) (N : h.Ns mainGlobals mg) (hG : G.cls c = clsAt K (names.getD c "")) (hx : names.getD c "" = x) (a : PySem.W.nsIn K mainGlobals x = some (some (.ref C))) (k : PySem.W.keepIn K (.ref C) = true)
    (ex : PySem.W.excIn K C veTail "ValueError.__new__" = true) (s : PySem.W.subIn K (.ref C) (.type "BaseException") = some true) (t : PySem.W.typeIn K (.ref C) = some (.type "type")) : Ec K mg G x c := by
  have e : G.cls c = C := by rw [hG, hx]; exact clsAt_of a
  exact ⟨by rw [e]; exact PySem.W.mg_of X N a, by rw [e]; exact k, by rw [e]; exact ex, by rw [e]; exact s, by rw [e]; exact t⟩
theorem walk_law2 {l : PySem.W.OpenLaw} {n k : Nat} {q : Program} {loose : List Str} {XP : (Str → Option Value) → Heap → Prop} {YP : World → Heap → Prop} {d : DefRec} {K : Params → PySem.W.Frag} {GO : PySem.W.Frag → Glb} {F : Fn} {x : Str}
    (hn : l.most = some n) (hn2 : n ≤ sizeLine) (hdf : d.params.defaults = []) (hr : Room k callerA) (hY : ∀ (w : World) (h : Heap), YP w h → (K w.params).In h)
    (Fw : ∀ (w : World) (mg : Str → Option Value) (fa : Addr) (h : Heap), (K w.params).In h → h.Ns mainGlobals mg → mg d.name = some (.ref fa) →
      ∃ fd : FuncData, (∀ (s : Shared) (u : Value), BindsTo s fd ⟨[u], []⟩ [(x, u)]) ∧ ∀ base : Heap, (K w.params).In base → base.Ns mainGlobals mg → FnOk l.prog w (K w.params) mg base (L2.CX l.prog w) k fa fd [x] (spD (K w.params) (GO (K w.params)) 1 F))
    (hF : ∀ ns : List Int, ns.length ≤ n → ∃ S, F [.scr (ns.map .int)] [] = .ok (.bl true) S) : PySem.W.WalkO q loose XP YP l.row.toRowW d [] (fun f vs => PySem.call f vs) :=
  L2.walk_of (K := K) (CX := fun w => L2.CX l.prog w) (sp := fun w => spD (K w.params) (GO (K w.params)) 1 F) hn hn2 hdf hr hY Fw (fun w H a ns hl ho hS => sp_end ho hS (hF ns hl)) (fun _ _ _ _ _ h => cx_end h)
end DL

set_option linter.all false
namespace DL
/-- _law_town(_law_script) -/
def b__law_town : SM :=
    sRet (dNw (dB2F (dFz (aCons (dC (.int 0)) (aNil))) (dB1 (dV 0) opList) lsAdd))
def F__law_town : Fn := fnOf 1 b__law_town
/-- _law_draw(_law_script, _law_town_here, _law_limit, _law_at, _law_left, _law_number) -/
def b__law_draw : SM :=
    sSeq (sAsg (dB2 (dB2 (dV 1) (dC (.int 0)) opIx) (dC (.int 1)) opAdd) (gSub (dV 1) (dC (.int 0))))
    (sSeq (sIf (dTest (dB2 (dV 0) (dFz (aNil)) opEq)) (sRet (dB2 (dB2 (dB2 (dB2 (dB2 (dV 1) (dC (.int 0)) opIx) (dB2 (dV 1) (dC (.int 0)) opIx) opMul) (dC (.int 7)) opMul) (dC (.int 3)) opDiv) (dV 2) opMod)) (sNext))
    (sSeq (sAsg (dB2 (dB2 (dV 1) (dC (.int 0)) opIx) (dB1 (dV 0) opLen) opMod) (gName 3))
    (sSeq (sAsg (dB2 (dV 1) (dB2 (dC (.int 1)) (dV 3) opAdd) opIx) (gName 4))
    (sSeq (sIf (bAnd (dTest (dB2 (dB2 (dV 0) (dV 3) opIx) (dB2 (dC (.int 10)) (dC (.int 18)) opPow) opGe)) (dTest (dB2 (dV 4) (dC (.int 0)) opGt))) (sSeq (sAsg (dB2 (dV 4) (dV 2) opDiv) (gSub (dV 1) (dB2 (dC (.int 1)) (dV 3) opAdd)))
    (sRet (dB2 (dV 4) (dV 2) opMod))) (sNext))
    (sSeq (sAsg (dB2 (dB2 (dB2 (dV 0) (dV 3) opIx) (dB2 (dC (.int 104729)) (dB2 (dV 1) (dC (.int 0)) opIx) opMul) opAdd) (dC (.int 4294967291)) opMod) (gName 5))
    (sSeq (sAsg (dB2 (dB2 (dV 5) (dC (.int 5)) opPow) (dC (.int 4294967279)) opMod) (gName 5))
    (sRet (dB2 (dB2 (dB2 (dB2 (dB2 (dB2 (dV 5) (dC (.int 64)) opDiv) (dC (.int 69621)) opMul) (dV 5) opAdd) (dC (.int 4294967231)) opMod) (dC (.int 8)) opDiv) (dV 2) opMod))))))))
def F__law_draw : Fn := fnOf 6 b__law_draw
def c__law_weighing_1 : LM :=
    lLc [5] (iRng1 (dV 2)) (gName 5) (bTrue) (dB2 (dV 3) (dCall F__law_draw (aCons (dV 0) (aCons (dV 1) (aCons (dB2 (dC (.int 2)) (dV 3) opSub) (aNil))))) opAdd)
/-- _law_weighing(_law_script, _law_town_here, _law_things, _law_low, _law_row, _law_k) -/
def b__law_weighing : SM :=
    sSeq (sAsg (dB2 (dCall F__law_draw (aCons (dV 0) (aCons (dV 1) (aCons (dC (.int 2)) (aNil))))) (dC (.int 1)) opSub) (gName 3))
    (sSeq (sOwn 4 (c__law_weighing_1))
    (sSeq (sIf (dTest (dB2 (dO 4) (dB2 (dFz (aCons (dC (.int 0)) (aNil))) (dV 2) opMul) opEq)) (sAsg (dC (.int 1)) (gSub (dO 4) (dCall F__law_draw (aCons (dV 0) (aCons (dV 1) (aCons (dV 2) (aNil))))))) (sNext))
    (sRet (dB1 (dO 4) opTuple))))
def F__law_weighing : Fn := fnOf 6 b__law_weighing
def w__law_settling_1 : SM :=
    sAsg (dB2 (dCall F__law_draw (aCons (dV 0) (aCons (dV 1) (aCons (dC (.int 3)) (aNil))))) (dC (.int 1)) opSub) (gSub (dO 6) (dV 7))
def w__law_settling_2 : SM :=
    sSeq (sOwn 6 (dB2F (dFz (aCons (dC (.int 0)) (aNil))) (dV 2) lsMul))
    (sSeq (sAsg (dC (.int 1)) (gSub (dO 6) (dV 5)))
    (sSeq (sFor (iRng1 (dV 5)) (gName 7) (w__law_settling_1))
    (sDrop (dApp (dO 4) (dB1 (dO 6) opTuple)))))
def w__law_settling_3 : SM :=
    sDrop (dApp (dO 4) (dCall F__law_weighing (aCons (dV 0) (aCons (dV 1) (aCons (dV 2) (aNil))))))
/-- _law_settling(_law_script, _law_town_here, _law_things, _law_most, _law_found, _law_k, _law_row, _law_n, _law_turn) -/
def b__law_settling : SM :=
    sSeq (sOwn 4 (aNil))
    (sSeq (sFor (iRng1 (dV 2)) (gName 5) (w__law_settling_2))
    (sSeq (sFor (iRng1 (dCall F__law_draw (aCons (dV 0) (aCons (dV 1) (aCons (dB2 (dB2P (dV 3) (dB2 (dC (.int 8)) (dV 2) opSub) opMin2) (dC (.int 1)) opAdd) (aNil)))))) (gName 8) (w__law_settling_3))
    (sRet (dB1 (dO 4) opTuple))))
def F__law_settling : Fn := fnOf 9 b__law_settling
/-- _law_pick(_law_script, _law_town_here, _law_choices) -/
def b__law_pick : SM :=
    sRet (dB2 (dV 2) (dCall F__law_draw (aCons (dV 0) (aCons (dV 1) (aCons (dB1 (dV 2) opLen) (aNil))))) opIx)
def F__law_pick : Fn := fnOf 3 b__law_pick
def c__law_wanted_1 : LM :=
    lLc [5] (iRng1 (dV 2)) (gName 5) (bTrue) (dCall F__law_pick (aCons (dV 0) (aCons (dV 1) (aCons (dV 3) (aNil)))))
/-- _law_wanted(_law_script, _law_town_here, _law_things, _law_sizes, _law_found, _law_k) -/
def b__law_wanted : SM :=
    sSeq (sAsg (dCall F__law_pick (aCons (dV 0) (aCons (dV 1) (aCons (dFz (aCons (dFz (aCons (dC (.int 0)) (aCons (dC (.int 1)) (aNil)))) (aCons (dFz (aCons (dC (.int 0)) (aCons (dC (.int 1)) (aCons (dC (.int 1)) (aCons (dB1 (dC (.int 1)) opNeg) (aNil)))))) (aCons (dFz (aCons (dB1 (dC (.int 20)) opNeg) (aCons (dB1 (dC (.int 3)) opNeg) (aCons (dC (.int 0)) (aCons (dC (.int 1)) (aCons (dC (.int 7)) (aCons (dC (.int 20)) (aNil)))))))) (aNil))))) (aNil))))) (gName 3))
    (sSeq (sOwn 4 (c__law_wanted_1))
    (sSeq (sIf (dTest (dB2 (dO 4) (dB2 (dFz (aCons (dC (.int 0)) (aNil))) (dV 2) opMul) opEq)) (sAsg (dC (.int 1)) (gSub (dO 4) (dC (.int 0)))) (sNext))
    (sRet (dB1 (dO 4) opTuple))))
def F__law_wanted : Fn := fnOf 6 b__law_wanted
/-- is_between(value, low, high) -/
def b_is_between : SM :=
    sRet (dAnd (dB1 (dV 0) (opIsA .int)) (dAnd (dNot (dB1 (dV 0) (opIsA .bl))) (dCh (dV 1) (dV 0) (dV 2) opLe2 opLe2)))
def F_is_between : Fn := fnOf 3 b_is_between
def c_is_weighing_1 : LM :=
    lLc [2] (iSeq (dV 1)) (gName 2) (bTrue) (dCall F_is_between (aCons (dV 2) (aCons (dB1 (dC (.int 1)) opNeg) (aCons (dC (.int 1)) (aNil)))))
/-- is_weighing(things, value, one) -/
def b_is_weighing : SM :=
    sSeq (sIf (bOr (bNot (dTest (dB1 (dV 1) (opIsA .tup)))) (bOr (dTest (dB2 (dB1 (dV 1) opLen) (dV 0) opNe)) (bNot (dTest (dB1 (dFz (c_is_weighing_1)) opAll))))) (sRet (dC (.bl false))) (sNext))
    (sRet (dB1 (dV 1) opAny))
def F_is_weighing : Fn := fnOf 3 b_is_weighing
def c_are_weighings_1 : LM :=
    lLc [2] (iSeq (dV 0)) (gName 2) (bTrue) (dCall F_is_weighing (aCons (dB1 (dB2 (dV 0) (dC (.int 0)) opIx) opLen) (aCons (dV 2) (aNil))))
/-- are_weighings(value, most, one) -/
def b_are_weighings : SM :=
    sSeq (sIf (bOr (bNot (dTest (dB1 (dV 0) (opIsA .tup)))) (bOr (bNot (dTest (dCh (dC (.int 1)) (dB1 (dV 0) opLen) (dV 1) opLe2 opLe2))) (bNot (dTest (dB1 (dB2 (dV 0) (dC (.int 0)) opIx) (opIsA .tup)))))) (sRet (dC (.bl false))) (sNext))
    (sRet (dAnd (dCh (dC (.int 1)) (dB1 (dB2 (dV 0) (dC (.int 0)) opIx) opLen) (dC (.int 4)) opLe2 opLe2) (dB1 (dFz (c_are_weighings_1)) opAll)))
def F_are_weighings : Fn := fnOf 3 b_are_weighings
/-- is_plan(value) -/
def b_is_plan : SM :=
    sRet (dCall F_are_weighings (aCons (dV 0) (aCons (dC (.int 8)) (aNil))))
def F_is_plan : Fn := fnOf 1 b_is_plan
def c_check_sum_1 : LM :=
    lLc [2] (iSeq (dV 1)) (gName 2) (bTrue) (dCall F_is_between (aCons (dV 2) (aCons (dB1 (dC (.int 20)) opNeg) (aCons (dC (.int 20)) (aNil)))))
/-- check_sum(things, value, one) -/
def b_check_sum : SM :=
    sSeq (sIf (bOr (bNot (dTest (dB1 (dV 1) (opIsA .tup)))) (bOr (dTest (dB2 (dB1 (dV 1) opLen) (dV 0) opNe)) (bNot (dTest (dB1 (dFz (c_check_sum_1)) opAll))))) (sRaise 3) (sNext))
    (sIf (bNot (dTest (dB1 (dV 1) opAny))) (sRaise 3) (sNext))
def F_check_sum : Fn := fnOf 3 b_check_sum
def w_divisor_of_1 : SM :=
    sPar2 0 1 (aCons (dV 1) (aCons (dB2 (dV 0) (dV 1) opMod) (aNil)))
/-- divisor_of(one, other) -/
def b_divisor_of : SM :=
    sSeq (sPar2 0 1 (aCons (dB1 (dV 0) opAbs) (aCons (dB1 (dV 1) opAbs) (aNil))))
    (sSeq (sWhile (fuelI 1) (dTest (dB2 (dV 1) (dC (.int 0)) opNe)) (w_divisor_of_1))
    (sRet (dV 0)))
def F_divisor_of : Fn := fnOf 2 b_divisor_of
/-- fraction(top, bottom, by) -/
def b_fraction : SM :=
    sSeq (sAsg (dCall F_divisor_of (aCons (dV 0) (aCons (dV 1) (aNil)))) (gName 2))
    (sSeq (sAsg (dIf (dTest (dB2 (dV 1) (dC (.int 0)) opGt)) (dV 2) (dB1 (dV 2) opNeg)) (gName 2))
    (sRet (dTup (aCons (dB2 (dV 0) (dV 2) opDiv) (aCons (dB2 (dV 1) (dV 2) opDiv) (aNil))))))
def F_fraction : Fn := fnOf 3 b_fraction
/-- plus(one, other) -/
def b_plus : SM :=
    sRet (dCall F_fraction (aCons (dB2 (dB2 (dB2 (dV 0) (dC (.int 0)) opIx) (dB2 (dV 1) (dC (.int 1)) opIx) opMul) (dB2 (dB2 (dV 1) (dC (.int 0)) opIx) (dB2 (dV 0) (dC (.int 1)) opIx) opMul) opAdd) (aCons (dB2 (dB2 (dV 0) (dC (.int 1)) opIx) (dB2 (dV 1) (dC (.int 1)) opIx) opMul) (aNil))))
def F_plus : Fn := fnOf 2 b_plus
def w_sum_of_1 : SM :=
    sAsg (dCall F_plus (aCons (dV 1) (aCons (dV 2) (aNil)))) (gName 1)
/-- sum_of(some, found, one) -/
def b_sum_of : SM :=
    sSeq (sAsg (dTup (aCons (dC (.int 0)) (aCons (dC (.int 1)) (aNil)))) (gName 1))
    (sSeq (sFor (iSeq (dV 0)) (gName 2) (w_sum_of_1))
    (sRet (dV 1)))
def F_sum_of : Fn := fnOf 3 b_sum_of
/-- by_factor(one, other) -/
def b_by_factor : SM :=
    sRet (dCall F_fraction (aCons (dB2 (dB2 (dV 0) (dC (.int 0)) opIx) (dB2 (dV 1) (dC (.int 0)) opIx) opMul) (aCons (dB2 (dB2 (dV 0) (dC (.int 1)) opIx) (dB2 (dV 1) (dC (.int 1)) opIx) opMul) (aNil))))
def F_by_factor : Fn := fnOf 2 b_by_factor
def c_led_1 : LM :=
    lLc [2, 3] (iZip (dV 0) (dV 1)) (gTup [gName 2, gName 3]) (bTrue) (dCall F_by_factor (aCons (dTup (aCons (dV 2) (aCons (dC (.int 1)) (aNil)))) (aCons (dV 3) (aNil))))
/-- led(row, numbers, one, two) -/
def b_led : SM :=
    sRet (dCall F_sum_of (aCons (dFz (c_led_1)) (aNil)))
def F_led : Fn := fnOf 4 b_led
/-- is_below(one, other) -/
def b_is_below : SM :=
    sRet (dB2 (dB2 (dB2 (dV 0) (dC (.int 0)) opIx) (dB2 (dV 1) (dC (.int 1)) opIx) opMul) (dB2 (dB2 (dV 1) (dC (.int 0)) opIx) (dB2 (dV 0) (dC (.int 1)) opIx) opMul) opLt2)
def F_is_below : Fn := fnOf 2 b_is_below
/-- check_things(value) -/
def b_check_things : SM :=
    sIf (bNot (dTest (dCall F_is_between (aCons (dV 0) (aCons (dC (.int 1)) (aCons (dC (.int 4)) (aNil))))))) (sRaise 5) (sNext)
def F_check_things : Fn := fnOf 1 b_check_things
/-- check_sort(value) -/
def b_check_sort : SM :=
    sIf (bOr (bNot (dTest (dB1 (dV 0) (opIsA .str)))) (dTest (dB2 (dV 0) (dTup (aCons (dC (.str [98, 111, 116, 104])) (aCons (dC (.str [111, 110, 101])) (aNil)))) opNotIn))) (sRaise 6) (sNext)
def F_check_sort : Fn := fnOf 1 b_check_sort
def c_found_weighings_1 : LM :=
    lLc2 [5, 6] [6] (iSeq (dV 3)) (gName 5) (bTrue) (iRng2 (dV 2) (dC (.int 2))) (gName 6) (bTrue) (dB2 (dV 5) (dTup (aCons (dV 6) (aNil))) opAdd)
def w_found_weighings_1 : SM :=
    sAsg (dFz (c_found_weighings_1)) (gName 3)
def c_found_weighings_2 : LM :=
    lLc [5] (iSeq (dV 3)) (gName 5) (dTest (dB1 (dV 5) opAny)) (dV 5)
/-- found_weighings(things, sort, low, rows, thing, row, one) -/
def b_found_weighings : SM :=
    sSeq (sAsg (dTup (aCons (dIf (dTest (dB2 (dV 1) (dC (.str [98, 111, 116, 104])) opEq)) (dB1 (dC (.int 1)) opNeg) (dC (.int 0))) (aCons (dFz (aCons (dTup (aNil)) (aNil))) (aNil)))) (gTup [gName 2, gName 3]))
    (sSeq (sFor (iRng1 (dV 0)) (gName 4) (w_found_weighings_1))
    (sRet (dFz (c_found_weighings_2))))
def F_found_weighings : Fn := fnOf 7 b_found_weighings
/-- check_plan(value) -/
def b_check_plan : SM :=
    sIf (bNot (dTest (dCall F_is_plan (aCons (dV 0) (aNil))))) (sRaise 1) (sNext)
def F_check_plan : Fn := fnOf 1 b_check_plan
def c_first_place_1 : LM :=
    lLc [1, 2] (iEnum (dV 0)) (gTup [gName 1, gName 2]) (dTest (dB2 (dV 2) (dC (.int 0)) opNe)) (dV 1)
/-- first_place(row, k, one) -/
def b_first_place : SM :=
    sRet (dB2 (dFz (c_first_place_1)) (dC (.int 0)) opIx)
def F_first_place : Fn := fnOf 3 b_first_place
def w_shortened_1 : SM :=
    sSeq (sAsg (dCall F_divisor_of (aCons (dV 1) (aCons (dV 2) (aNil)))) (gName 1))
    (sIf (dTest (dB2 (dV 1) (dC (.int 1)) opEq)) (sRet (dB1 (dV 0) opList)) (sNext))
def c_shortened_1 : LM :=
    lLc [2] (iSeq (dV 0)) (gName 2) (bTrue) (dB2 (dV 2) (dV 1) opDiv)
/-- shortened(numbers, by, one) -/
def b_shortened : SM :=
    sSeq (sAsg (dC (.int 0)) (gName 1))
    (sSeq (sFor (iSeq (dV 0)) (gName 2) (w_shortened_1))
    (sRet (dIf (dTest (dB2 (dV 1) (dC (.int 1)) opGt)) (dFz (c_shortened_1)) (dB1 (dV 0) opList))))
def F_shortened : Fn := fnOf 3 b_shortened
def c_reduced_1 : LM :=
    lLc [4, 5] (iZip (dV 0) (dV 2)) (gTup [gName 4, gName 5]) (bTrue) (dB2 (dB2 (dV 4) (dB2 (dV 2) (dV 3) opIx) opMul) (dB2 (dB2 (dV 0) (dV 3) opIx) (dV 5) opMul) opSub)
def w_reduced_1 : SM :=
    sSeq (sAsg (dCall F_first_place (aCons (dV 2) (aNil))) (gName 3))
    (sIf (dTest (dB2 (dB2 (dV 0) (dV 3) opIx) (dC (.int 0)) opNe)) (sAsg (dCall F_shortened (aCons (dFz (c_reduced_1)) (aNil))) (gName 0)) (sNext))
/-- reduced(row, rows, other, place, one, two) -/
def b_reduced : SM :=
    sSeq (sFor (iSeq (dV 1)) (gName 2) (w_reduced_1))
    (sRet (dV 0))
def F_reduced : Fn := fnOf 6 b_reduced
def c_independent_1 : LM :=
    lLc [3] (iSeq (dV 1)) (gName 3) (bTrue) (dCall F_reduced (aCons (dV 3) (aCons (dFz (aCons (dV 2) (aNil))) (aNil))))
def w_independent_1 : SM :=
    sSeq (sAsg (dCall F_reduced (aCons (dB1 (dV 2) opList) (aCons (dV 1) (aNil)))) (gName 2))
    (sIf (dTest (dB1 (dV 2) opAny)) (sAsg (dB2 (dFz (c_independent_1)) (dFz (aCons (dV 2) (aNil))) opAdd) (gName 1)) (sNext))
/-- independent(rows, found, row, one) -/
def b_independent : SM :=
    sSeq (sAsg (dFz (aNil)) (gName 1))
    (sSeq (sFor (iSeq (dV 0)) (gName 2) (w_independent_1))
    (sRet (dV 1)))
def F_independent : Fn := fnOf 4 b_independent
/-- rank(rows) -/
def b_rank : SM :=
    sRet (dB1 (dCall F_independent (aCons (dV 0) (aNil))) opLen)
def F_rank : Fn := fnOf 1 b_rank
/-- does_settle(plan) -/
def b_does_settle : SM :=
    sRet (dB2 (dCall F_rank (aCons (dV 0) (aNil))) (dB1 (dB2 (dV 0) (dC (.int 0)) opIx) opLen) opEq)
def F_does_settle : Fn := fnOf 1 b_does_settle
def c_left_without_1 : LM :=
    lLc [3, 2] (iEnum (dV 0)) (gTup [gName 3, gName 2]) (dTest (dB2 (dV 3) (dV 1) opNotIn)) (dV 2)
/-- left_without(plan, numbers, row, k) -/
def b_left_without : SM :=
    sRet (dB1 (dFz (c_left_without_1)) opTuple)
def F_left_without : Fn := fnOf 4 b_left_without
def c_some_numbers_1 : LM :=
    lLc2 [4, 5] [5] (iSeq (dV 2)) (gName 4) (bTrue) (iRng1 (dV 0)) (gName 5) (bOr (dTest (dB2 (dV 4) (dTup (aNil)) opEq)) (dTest (dB2 (dB2 (dV 4) (dB1 (dC (.int 1)) opNeg) opIx) (dV 5) opLt2))) (dB2 (dV 4) (dTup (aCons (dV 5) (aNil))) opAdd)
def w_some_numbers_1 : SM :=
    sAsg (dFz (c_some_numbers_1)) (gName 2)
/-- some_numbers(many, size, rows, time, row, one) -/
def b_some_numbers : SM :=
    sSeq (sAsg (dFz (aCons (dTup (aNil)) (aNil))) (gName 2))
    (sSeq (sFor (iRng1 (dV 1)) (gName 3) (w_some_numbers_1))
    (sRet (dV 2)))
def F_some_numbers : Fn := fnOf 6 b_some_numbers
def c_solved_tables_1 : LM :=
    lLc [3] (iSeq (dV 2)) (gName 3) (bTrue) (dB2 (dCall F_first_place (aCons (dV 3) (aNil))) (dV 1) opEq)
def w_solved_tables_1 : SM :=
    sAsg (dCall F_fraction (aCons (dB2 (dV 3) (dB1 (dC (.int 1)) opNeg) opIx) (aCons (dB2 (dV 3) (dCall F_first_place (aCons (dV 3) (aNil))) opIx) (aNil)))) (gSub (dO 4) (dCall F_first_place (aCons (dV 3) (aNil))))
/-- solved_tables(rows, width, some, row, found) -/
def b_solved_tables : SM :=
    sSeq (sAsg (dTup (aCons (dB2 (dB1 (dB2 (dV 0) (dC (.int 0)) opIx) opLen) (dC (.int 1)) opSub) (aCons (dCall F_independent (aCons (dV 0) (aNil))) (aNil)))) (gTup [gName 1, gName 2]))
    (sSeq (sIf (dTest (dB1 (dFz (c_solved_tables_1)) opAnyB)) (sRet (dC .non)) (sNext))
    (sSeq (sOwn 4 (dB2F (dFz (aCons (dTup (aCons (dC (.int 0)) (aCons (dC (.int 1)) (aNil)))) (aNil))) (dV 1) lsMul))
    (sSeq (sFor (iSeq (dV 2)) (gName 3) (w_solved_tables_1))
    (sRet (dF 4)))))
def F_solved_tables : Fn := fnOf 5 b_solved_tables
def c_square_of_1 : LM :=
    lLc [2] (iSeq (dV 0)) (gName 2) (bTrue) (dB2 (dB2 (dV 2) (dV 3) opIx) (dB2 (dV 2) (dV 4) opIx) opMul)
def c_square_of_2 : LM :=
    lLc [4] (iRng1 (dV 1)) (gName 4) (bTrue) (dB1 (dFz (c_square_of_1)) opSum)
def c_square_of_3 : LM :=
    lLc [3] (iRng1 (dV 1)) (gName 3) (bTrue) (dFz (c_square_of_2))
/-- square_of(plan, things, row, i, j) -/
def b_square_of : SM :=
    sSeq (sAsg (dB1 (dB2 (dV 0) (dC (.int 0)) opIx) opLen) (gName 1))
    (sRet (dFz (c_square_of_3)))
def F_square_of : Fn := fnOf 5 b_square_of
def c_found_leading_1 : LM :=
    lLc [3, 4] (iZip (dCall F_square_of (aCons (dV 0) (aNil))) (dV 1)) (gTup [gName 3, gName 4]) (bTrue) (dB2 (dV 3) (dFz (aCons (dV 4) (aNil))) opAdd)
/-- found_leading(plan, wanted, rows, row, goal) -/
def b_found_leading : SM :=
    sSeq (sAsg (dFz (c_found_leading_1)) (gName 2))
    (sRet (dCall F_solved_tables (aCons (dV 2) (aNil))))
def F_found_leading : Fn := fnOf 5 b_found_leading
/-- checked_leading(plan, wanted, found) -/
def b_checked_leading : SM :=
    sSeq (sDrop (dCall F_check_plan (aCons (dV 0) (aNil))))
    (sSeq (sDrop (dCall F_check_sum (aCons (dB1 (dB2 (dV 0) (dC (.int 0)) opIx) opLen) (aCons (dV 1) (aNil)))))
    (sSeq (sAsg (dCall F_found_leading (aCons (dV 0) (aCons (dV 1) (aNil)))) (gName 2))
    (sSeq (sIf (dTest (dB2 (dV 2) (dC .non) opIs)) (sRaise 15) (sNext))
    (sRet (dV 2)))))
def F_checked_leading : Fn := fnOf 3 b_checked_leading
def c_best_factors_1 : LM :=
    lLc [3] (iSeq (dV 0)) (gName 3) (bTrue) (dCall F_led (aCons (dV 3) (aCons (dV 2) (aNil))))
/-- best_factors(plan, wanted, found, row) -/
def b_best_factors : SM :=
    sSeq (sAsg (dCall F_checked_leading (aCons (dV 0) (aCons (dV 1) (aNil)))) (gName 2))
    (sRet (dB1 (dFz (c_best_factors_1)) opTuple))
def F_best_factors : Fn := fnOf 4 b_best_factors
def c_spread_1 : LM :=
    lLc [2] (iSeq (dCall F_best_factors (aCons (dV 0) (aCons (dV 1) (aNil))))) (gName 2) (bTrue) (dCall F_by_factor (aCons (dV 2) (aCons (dV 2) (aNil))))
/-- spread(plan, wanted, one) -/
def b_spread : SM :=
    sRet (dCall F_sum_of (aCons (dFz (c_spread_1)) (aNil)))
def F_spread : Fn := fnOf 3 b_spread
/-- check_settled(plan) -/
def b_check_settled : SM :=
    sSeq (sDrop (dCall F_check_plan (aCons (dV 0) (aNil))))
    (sIf (bNot (dTest (dCall F_does_settle (aCons (dV 0) (aNil))))) (sRaise 16) (sNext))
def F_check_settled : Fn := fnOf 1 b_check_settled
def c_determinant_1 (F : Fn) : LM :=
    lLc [5] (iSeq (dSl (dV 0) (oSome (dC (.int 1))) (oNone))) (gName 5) (bTrue) (dB2 (dSl (dV 5) (oNone) (oSome (dV 2))) (dSl (dV 5) (oSome (dB2 (dV 2) (dC (.int 1)) opAdd)) (oNone)) opAdd)
def w_determinant_1 (F : Fn) : SM :=
    sIf (dTest (dB2 (dV 3) (dC (.int 0)) opNe)) (sSeq (sAsg (dFz (c_determinant_1 F)) (gName 4))
    (sAsg (dB2 (dV 1) (dB2 (dIf (dTest (dB2 (dB2 (dV 2) (dC (.int 2)) opMod) (dC (.int 0)) opEq)) (dV 3) (dB1 (dV 3) opNeg)) (dCall F (aCons (dV 4) (aNil))) opMul) opAdd) (gName 1))) (sNext)
/-- determinant(table, found, k, one, rest, row) -/
def b_determinant (F : Fn) : SM :=
    sSeq (sIf (dTest (dB2 (dB1 (dV 0) opLen) (dC (.int 0)) opEq)) (sRet (dC (.int 1))) (sNext))
    (sSeq (sAsg (dC (.int 0)) (gName 1))
    (sSeq (sFor (iEnum (dB2 (dV 0) (dC (.int 0)) opIx)) (gTup [gName 2, gName 3]) (w_determinant_1 F))
    (sRet (dV 1))))
def R_determinant : Nat → Fn
  | 0 => fStuck
  | n + 1 => fnOf 6 (b_determinant (R_determinant n))
def F_determinant : Fn := R_determinant 6
def c_without_cross_1 : LM :=
    lLc [4, 3] (iEnum (dV 0)) (gTup [gName 4, gName 3]) (dTest (dB2 (dV 4) (dV 1) opNe)) (dB2 (dSl (dV 3) (oNone) (oSome (dV 2))) (dSl (dV 3) (oSome (dB2 (dV 2) (dC (.int 1)) opAdd)) (oNone)) opAdd)
/-- without_cross(table, row, column, line, k) -/
def b_without_cross : SM :=
    sRet (dFz (c_without_cross_1))
def F_without_cross : Fn := fnOf 5 b_without_cross
def w_found_ties_1 : SM :=
    sSeq (sAsg (dCall F_determinant (aCons (dCall F_without_cross (aCons (dV 1) (aCons (dV 7) (aCons (dV 5) (aNil))))) (aNil))) (gName 8))
    (sDrop (dApp (dO 6) (dCall F_fraction (aCons (dIf (dTest (dB2 (dB2 (dB2 (dV 5) (dV 7) opAdd) (dC (.int 2)) opMod) (dC (.int 0)) opEq)) (dV 8) (dB1 (dV 8) opNeg)) (aCons (dV 2) (aNil))))))
def w_found_ties_2 : SM :=
    sSeq (sOwn 6 (aNil))
    (sSeq (sFor (iRng1 (dV 3)) (gName 7) (w_found_ties_1))
    (sDrop (dApp (dO 4) (dB1 (dO 6) opTuple))))
/-- found_ties(plan, table, whole, things, found, i, row, j, part) -/
def b_found_ties : SM :=
    sSeq (sAsg (dCall F_square_of (aCons (dV 0) (aNil))) (gName 1))
    (sSeq (sPar2 2 3 (aCons (dCall F_determinant (aCons (dV 1) (aNil))) (aCons (dB1 (dV 1) opLen) (aNil))))
    (sSeq (sOwn 4 (aNil))
    (sSeq (sFor (iRng1 (dV 3)) (gName 5) (w_found_ties_2))
    (sRet (dF 4)))))
def F_found_ties : Fn := fnOf 9 b_found_ties
/-- negative(one) -/
def b_negative : SM :=
    sRet (dTup (aCons (dB1 (dB2 (dV 0) (dC (.int 0)) opIx) opNeg) (aCons (dB2 (dV 0) (dC (.int 1)) opIx) (aNil))))
def F_negative : Fn := fnOf 1 b_negative
/-- less(one, other) -/
def b_less : SM :=
    sRet (dCall F_plus (aCons (dV 0) (aCons (dCall F_negative (aCons (dV 1) (aNil))) (aNil))))
def F_less : Fn := fnOf 2 b_less
/-- settles(plan) -/
def b_settles : SM :=
    sSeq (sDrop (dCall F_check_plan (aCons (dV 0) (aNil))))
    (sRet (dCall F_does_settle (aCons (dV 0) (aNil))))
def F_settles : Fn := fnOf 1 b_settles
/-- ties(plan) -/
def b_ties : SM :=
    sSeq (sDrop (dCall F_check_settled (aCons (dV 0) (aNil))))
    (sRet (dB1 (dCall F_found_ties (aCons (dV 0) (aNil))) opTuple))
def F_ties : Fn := fnOf 1 b_ties
def c_value_of_1 : LM :=
    lLc [5] (iRng1 (dB1 (dV 2) opLen)) (gName 5) (bTrue) (dCall F_determinant (aCons (dCall F_without_cross (aCons (dV 2) (aCons (dV 5) (aCons (dV 5) (aNil))))) (aNil)))
/-- value_of(plan, goal, table, whole, parts, k) -/
def b_value_of : SM :=
    sSeq (sAsg (dCall F_square_of (aCons (dV 0) (aNil))) (gName 2))
    (sSeq (sAsg (dCall F_determinant (aCons (dV 2) (aNil))) (gName 3))
    (sSeq (sIf (dTest (dB2 (dV 3) (dC (.int 0)) opEq)) (sRet (dC .non)) (sNext))
    (sSeq (sIf (dTest (dB2 (dV 1) (dC (.str [119, 104, 111, 108, 101])) opEq)) (sRet (dCall F_fraction (aCons (dC (.int 1)) (aCons (dV 3) (aNil))))) (sNext))
    (sSeq (sAsg (dFz (c_value_of_1)) (gName 4))
    (sRet (dCall F_fraction (aCons (dIf (dTest (dB2 (dV 1) (dC (.str [115, 117, 109])) opEq)) (dB1 (dV 4) opSum) (dB1 (dV 4) opMax)) (aCons (dV 3) (aNil)))))))))
def F_value_of : Fn := fnOf 6 b_value_of
def w_found_strength_1 : SM :=
    sSeq (sAsg (dCall F_left_without (aCons (dV 0) (aCons (dV 2) (aNil)))) (gName 3))
    (sIf (bOr (dTest (dB2 (dV 3) (dTup (aNil)) opEq)) (bNot (dTest (dCall F_does_settle (aCons (dV 3) (aNil)))))) (sRet (dV 1)) (sNext))
def w_found_strength_2 : SM :=
    sFor (iSeq (dCall F_some_numbers (aCons (dB1 (dV 0) opLen) (aCons (dV 1) (aNil))))) (gName 2) (w_found_strength_1)
/-- found_strength(plan, size, numbers, rest) -/
def b_found_strength : SM :=
    sSeq (sFor (iRng2 (dC (.int 1)) (dB2 (dB1 (dV 0) opLen) (dC (.int 1)) opAdd)) (gName 1) (w_found_strength_2))
    (sRet (dC (.int 0)))
def F_found_strength : Fn := fnOf 4 b_found_strength
/-- strength(plan) -/
def b_strength : SM :=
    sSeq (sDrop (dCall F_check_settled (aCons (dV 0) (aNil))))
    (sRet (dCall F_found_strength (aCons (dV 0) (aNil))))
def F_strength : Fn := fnOf 1 b_strength
/-- seen(plan) -/
def b_seen : SM :=
    sSeq (sDrop (dCall F_check_settled (aCons (dV 0) (aNil))))
    (sRet (dB2 (dCall F_found_strength (aCons (dV 0) (aNil))) (dC (.int 1)) opSub))
def F_seen : Fn := fnOf 1 b_seen
/-- _law_name(_law_caught, _law_found) -/
def b__law_name : SM :=
    sSeq (sIf (bNot (dTest (dB1 (dV 0) (opIsVE okL)))) (sRet (dB1 (dC (.int 1)) opNeg)) (sNext))
    (sSeq (sAsg (dFz (aCons (dB1 (dV 0) (opIsE okL 1)) (aCons (dB1 (dV 0) (opIsE okL 2)) (aNil)))) (gName 1))
    (sSeq (sAsg (dB2 (dV 1) (dFz (aCons (dB1 (dV 0) (opIsE okL 3)) (aCons (dB1 (dV 0) (opIsE okL 4)) (aNil)))) opAdd) (gName 1))
    (sSeq (sAsg (dB2 (dV 1) (dFz (aCons (dB1 (dV 0) (opIsE okL 5)) (aCons (dB1 (dV 0) (opIsE okL 6)) (aNil)))) opAdd) (gName 1))
    (sSeq (sAsg (dB2 (dV 1) (dFz (aCons (dB1 (dV 0) (opIsE okL 7)) (aCons (dB1 (dV 0) (opIsE okL 8)) (aNil)))) opAdd) (gName 1))
    (sSeq (sAsg (dB2 (dV 1) (dFz (aCons (dB1 (dV 0) (opIsE okL 9)) (aCons (dB1 (dV 0) (opIsE okL 10)) (aNil)))) opAdd) (gName 1))
    (sSeq (sAsg (dB2 (dV 1) (dFz (aCons (dB1 (dV 0) (opIsE okL 11)) (aCons (dB1 (dV 0) (opIsE okL 12)) (aNil)))) opAdd) (gName 1))
    (sSeq (sAsg (dB2 (dV 1) (dFz (aCons (dB1 (dV 0) (opIsE okL 13)) (aCons (dB1 (dV 0) (opIsE okL 14)) (aNil)))) opAdd) (gName 1))
    (sSeq (sAsg (dB2 (dV 1) (dFz (aCons (dB1 (dV 0) (opIsE okL 15)) (aCons (dB1 (dV 0) (opIsE okL 16)) (aNil)))) opAdd) (gName 1))
    (sSeq (sAsg (dB2 (dV 1) (dFz (aCons (dB1 (dV 0) (opIsE okL 17)) (aCons (dB1 (dV 0) (opIsE okL 18)) (aNil)))) opAdd) (gName 1))
    (sSeq (sAsg (dB2 (dV 1) (dFz (aCons (dB1 (dV 0) (opIsE okL 19)) (aCons (dB1 (dV 0) (opIsE okL 20)) (aNil)))) opAdd) (gName 1))
    (sRet (dIf (dTest (dB2 (dM1 (dV 1) (dC (.bl true)) opCntB) (dC (.int 1)) opEq)) (dM1 (dV 1) (dC (.bl true)) opIndex) (dB1 (dC (.int 1)) opNeg)))))))))))))
def F__law_name : Fn := fnOf 2 b__law_name
/-- _law_raises(_law_name_here, _law_some) -/
def b__law_raises : SM :=
    sSeq (sAsg (dFz (aCons (dC (.str [112, 108, 97, 110])) (aCons (dC (.str [108, 105, 115, 116])) (aCons (dC (.str [115, 117, 109])) (aCons (dC (.str [114, 101, 115, 117, 108, 116, 115])) (aCons (dC (.str [116, 104, 105, 110, 103, 115])) (aCons (dC (.str [115, 111, 114, 116])) (aCons (dC (.str [103, 111, 97, 108])) (aCons (dC (.str [110, 117, 109, 98, 101, 114])) (aCons (dC (.str [110, 97, 109, 101, 115])) (aNil))))))))))) (gName 1))
    (sSeq (sAsg (dB2 (dV 1) (dFz (aCons (dC (.str [119, 101, 105, 103, 104, 105, 110, 103])) (aCons (dC (.str [99, 111, 117, 110, 116])) (aCons (dC (.str [115, 104, 97, 114, 101, 115])) (aCons (dC (.str [116, 101, 120, 116])) (aCons (dC (.str [117, 110, 101, 113, 117, 97, 108])) (aCons (dC (.str [110, 111, 116, 95, 116, 111, 108, 100])) (aCons (dC (.str [110, 111, 116, 95, 115, 101, 116, 116, 108, 101, 100])) (aNil))))))))) opAdd) (gName 1))
    (sSeq (sAsg (dB2 (dV 1) (dFz (aCons (dC (.str [110, 111, 116, 95, 98, 111, 114, 110, 101])) (aCons (dC (.str [108, 97, 115, 116, 95, 111, 110, 101])) (aCons (dC (.str [109, 97, 110, 121])) (aCons (dC (.str [117, 110, 100, 111])) (aNil)))))) opAdd) (gName 1))
    (sRet (dTup (aCons (dC (.str [114, 97, 105, 115, 101, 100])) (aCons (dM1 (dV 1) (dV 0) opIndex) (aNil)))))))
def F__law_raises : Fn := fnOf 2 b__law_raises
/-- _law_below(_law_one, _law_two) -/
def b__law_below : SM :=
    sRet (dB2 (dB2 (dB2 (dV 0) (dC (.int 0)) opIx) (dB2 (dV 1) (dC (.int 1)) opIx) opMul) (dB2 (dB2 (dV 1) (dC (.int 0)) opIx) (dB2 (dV 0) (dC (.int 1)) opIx) opMul) opLt2)
def F__law_below : Fn := fnOf 2 b__law_below
def w__law_ratio_1 : SM :=
    sPar2 2 3 (aCons (dV 3) (aCons (dB2 (dV 2) (dV 3) opMod) (aNil)))
/-- _law_ratio(_law_top, _law_bottom, _law_one, _law_two) -/
def b__law_ratio : SM :=
    sSeq (sPar2 2 3 (aCons (dB1 (dV 0) opAbs) (aCons (dB1 (dV 1) opAbs) (aNil))))
    (sSeq (sWhile (fuelI 3) (dTest (dB2 (dV 3) (dC (.int 0)) opNe)) (w__law_ratio_1))
    (sSeq (sAsg (dIf (dTest (dB2 (dV 1) (dC (.int 0)) opGt)) (dV 2) (dB2 (dC (.int 0)) (dV 2) opSub)) (gName 2))
    (sRet (dTup (aCons (dB2 (dV 0) (dV 2) opDiv) (aCons (dB2 (dV 1) (dV 2) opDiv) (aNil)))))))
def F__law_ratio : Fn := fnOf 4 b__law_ratio
/-- _law_plus(_law_one, _law_two) -/
def b__law_plus : SM :=
    sRet (dCall F__law_ratio (aCons (dB2 (dB2 (dB2 (dV 0) (dC (.int 0)) opIx) (dB2 (dV 1) (dC (.int 1)) opIx) opMul) (dB2 (dB2 (dV 1) (dC (.int 0)) opIx) (dB2 (dV 0) (dC (.int 1)) opIx) opMul) opAdd) (aCons (dB2 (dB2 (dV 0) (dC (.int 1)) opIx) (dB2 (dV 1) (dC (.int 1)) opIx) opMul) (aNil))))
def F__law_plus : Fn := fnOf 2 b__law_plus
/-- _law_times(_law_one, _law_two) -/
def b__law_times : SM :=
    sRet (dCall F__law_ratio (aCons (dB2 (dB2 (dV 0) (dC (.int 0)) opIx) (dB2 (dV 1) (dC (.int 0)) opIx) opMul) (aCons (dB2 (dB2 (dV 0) (dC (.int 1)) opIx) (dB2 (dV 1) (dC (.int 1)) opIx) opMul) (aNil))))
def F__law_times : Fn := fnOf 2 b__law_times
def w__law_led_1 : SM :=
    sAsg (dCall F__law_plus (aCons (dV 2) (aCons (dCall F__law_times (aCons (dTup (aCons (dV 3) (aCons (dC (.int 1)) (aNil)))) (aCons (dV 4) (aNil)))) (aNil)))) (gName 2)
/-- _law_led(_law_row, _law_some, _law_found, _law_one, _law_two) -/
def b__law_led : SM :=
    sSeq (sAsg (dTup (aCons (dC (.int 0)) (aCons (dC (.int 1)) (aNil)))) (gName 2))
    (sSeq (sFor (iZip (dV 0) (dV 1)) (gTup [gName 3, gName 4]) (w__law_led_1))
    (sRet (dV 2)))
def F__law_led : Fn := fnOf 5 b__law_led
def w__law_squares_1 : SM :=
    sAsg (dCall F__law_plus (aCons (dV 1) (aCons (dCall F__law_times (aCons (dV 2) (aCons (dV 2) (aNil)))) (aNil)))) (gName 1)
/-- _law_squares(_law_some, _law_found, _law_one) -/
def b__law_squares : SM :=
    sSeq (sAsg (dTup (aCons (dC (.int 0)) (aCons (dC (.int 1)) (aNil)))) (gName 1))
    (sSeq (sFor (iSeq (dV 0)) (gName 2) (w__law_squares_1))
    (sRet (dV 1)))
def F__law_squares : Fn := fnOf 3 b__law_squares
def w__law_sum_of_1 : SM :=
    sAsg (dCall F__law_plus (aCons (dV 1) (aCons (dV 2) (aNil)))) (gName 1)
/-- _law_sum_of(_law_some, _law_found, _law_one) -/
def b__law_sum_of : SM :=
    sSeq (sAsg (dTup (aCons (dC (.int 0)) (aCons (dC (.int 1)) (aNil)))) (gName 1))
    (sSeq (sFor (iSeq (dV 0)) (gName 2) (w__law_sum_of_1))
    (sRet (dV 1)))
def F__law_sum_of : Fn := fnOf 3 b__law_sum_of
def c__law_det_1 (F : Fn) : LM :=
    lLc [4] (iSeq (dSl (dV 0) (oSome (dC (.int 1))) (oNone))) (gName 4) (bTrue) (dB2 (dSl (dV 4) (oNone) (oSome (dV 2))) (dSl (dV 4) (oSome (dB2 (dV 2) (dC (.int 1)) opAdd)) (oNone)) opAdd)
def w__law_det_1 (F : Fn) : SM :=
    sSeq (sAsg (dFz (c__law_det_1 F)) (gName 3))
    (sSeq (sAsg (dCall F__law_times (aCons (dB2 (dB2 (dV 0) (dC (.int 0)) opIx) (dV 2) opIx) (aCons (dCall F (aCons (dV 3) (aNil))) (aNil)))) (gName 5))
    (sAsg (dCall F__law_plus (aCons (dV 1) (aCons (dIf (dTest (dB2 (dB2 (dV 2) (dC (.int 2)) opMod) (dC (.int 0)) opEq)) (dV 5) (dTup (aCons (dB2 (dC (.int 0)) (dB2 (dV 5) (dC (.int 0)) opIx) opSub) (aCons (dB2 (dV 5) (dC (.int 1)) opIx) (aNil))))) (aNil)))) (gName 1)))
/-- _law_det(_law_table, _law_found, _law_k, _law_rest, _law_row, _law_part) -/
def b__law_det (F : Fn) : SM :=
    sSeq (sIf (dTest (dB2 (dB1 (dV 0) opLen) (dC (.int 1)) opEq)) (sRet (dB2 (dB2 (dV 0) (dC (.int 0)) opIx) (dC (.int 0)) opIx)) (sNext))
    (sSeq (sAsg (dTup (aCons (dC (.int 0)) (aCons (dC (.int 1)) (aNil)))) (gName 1))
    (sSeq (sFor (iRng1 (dB1 (dV 0) opLen)) (gName 2) (w__law_det_1 F))
    (sRet (dV 1))))
def R__law_det : Nat → Fn
  | 0 => fStuck
  | n + 1 => fnOf 6 (b__law_det (R__law_det n))
def F__law_det : Fn := R__law_det 6
def c__law_value_1 : LM :=
    lLc [3] (iSeq (dV 2)) (gName 3) (bTrue) (dB1 (dV 3) opList)
def c__law_value_2 : LM :=
    lLc [5] (iRng1 (dB1 (dV 2) opLen)) (gName 5) (bTrue) (dB2 (dB2 (dV 2) (dV 5) opIx) (dV 5) opIx)
def w__law_value_1 : SM :=
    sAsg (dIf (dTest (dCall F__law_below (aCons (dV 6) (aCons (dV 7) (aNil))))) (dV 7) (dV 6)) (gName 6)
/-- _law_value(_law_plan, _law_goal, _law_table, _law_row, _law_sizes, _law_k, _law_best, _law_one) -/
def b__law_value : SM :=
    sSeq (sAsg (dCall F_ties (aCons (dV 0) (aNil))) (gName 2))
    (sSeq (sIf (dTest (dB2 (dV 1) (dC (.str [119, 104, 111, 108, 101])) opEq)) (sRet (dCall F__law_det (aCons (dFz (c__law_value_1)) (aNil)))) (sNext))
    (sSeq (sAsg (dFz (c__law_value_2)) (gName 4))
    (sSeq (sIf (dTest (dB2 (dV 1) (dC (.str [115, 117, 109])) opEq)) (sRet (dCall F__law_sum_of (aCons (dV 4) (aNil)))) (sNext))
    (sSeq (sAsg (dB2 (dV 4) (dC (.int 0)) opIx) (gName 6))
    (sSeq (sFor (iSeq (dV 4)) (gName 7) (w__law_value_1))
    (sRet (dV 6)))))))
def F__law_value : Fn := fnOf 8 b__law_value
def c_single_weighings_1 : LM :=
    lLc [3] (iSeq (dV 2)) (gName 3) (dTest (dB2 (dV 3) (dC (.int 0)) opNe)) (dV 3)
def c_single_weighings_2 : LM :=
    lLc [2] (iSeq (dCall F_found_weighings (aCons (dV 0) (aCons (dV 1) (aNil))))) (gName 2) (dTest (dB2 (dB2 (dFz (c_single_weighings_1)) (dC (.int 0)) opIx) (dC (.int 1)) opEq)) (dV 2)
/-- single_weighings(things, sort, row, one) -/
def b_single_weighings : SM :=
    sRet (dFz (c_single_weighings_2))
def F_single_weighings : Fn := fnOf 4 b_single_weighings
def w_count_of_1 : SM :=
    sAsg (dB2 (dB2 (dV 2) (dB2 (dV 0) (dV 3) opAdd) opMul) (dB2 (dV 3) (dC (.int 1)) opAdd) opDiv) (gName 2)
/-- count_of(choices, many, found, k) -/
def b_count_of : SM :=
    sSeq (sAsg (dC (.int 1)) (gName 2))
    (sSeq (sFor (iRng1 (dV 1)) (gName 3) (w_count_of_1))
    (sRet (dV 2)))
def F_count_of : Fn := fnOf 4 b_count_of
def c_found_best_1 : LM :=
    lLc2 [7, 8] [8] (iSeq (dV 5)) (gName 7) (bTrue) (iRng1 (dB1 (dV 4) opLen)) (gName 8) (bOr (dTest (dB2 (dV 7) (dTup (aNil)) opEq)) (dTest (dB2 (dB2 (dV 7) (dB1 (dC (.int 1)) opNeg) opIx) (dV 8) opLe2))) (dB2 (dV 7) (dTup (aCons (dV 8) (aNil))) opAdd)
def w_found_best_1 : SM :=
    sAsg (dFz (c_found_best_1)) (gName 5)
def c_found_best_2 : LM :=
    lLc [8] (iSeq (dV 7)) (gName 8) (bTrue) (dB2 (dV 4) (dV 8) opIx)
def w_found_best_2 : SM :=
    sSeq (sAsg (dB1 (dFz (c_found_best_2)) opTuple) (gName 11))
    (sSeq (sAsg (dCall F_value_of (aCons (dV 11) (aCons (dV 3) (aNil)))) (gName 12))
    (sIf (bAnd (dTest (dB2 (dV 12) (dC .non) opIsNot)) (bOr (dTest (dB2 (dV 9) (dC .non) opIs)) (dTest (dCall F_is_below (aCons (dV 12) (aCons (dV 9) (aNil))))))) (sPar2 9 10 (aCons (dV 12) (aCons (dV 11) (aNil)))) (sNext)))
/-- found_best(things, many, sort, goal, some, rows, time, row, k, best, found, plan, value) -/
def b_found_best : SM :=
    sSeq (sDrop (dCall F_check_things (aCons (dV 0) (aNil))))
    (sSeq (sIf (bNot (dTest (dCall F_is_between (aCons (dV 1) (aCons (dV 0) (aCons (dC (.int 8)) (aNil))))))) (sRaise 11) (sNext))
    (sSeq (sDrop (dCall F_check_sort (aCons (dV 2) (aNil))))
    (sSeq (sIf (bOr (bNot (dTest (dB1 (dV 3) (opIsA .str)))) (dTest (dB2 (dV 3) (dTup (aCons (dC (.str [115, 117, 109])) (aCons (dC (.str [119, 111, 114, 115, 116])) (aCons (dC (.str [119, 104, 111, 108, 101])) (aNil))))) opNotIn))) (sRaise 7) (sNext))
    (sSeq (sAsg (dCall F_single_weighings (aCons (dV 0) (aCons (dV 2) (aNil)))) (gName 4))
    (sSeq (sIf (dTest (dB2 (dCall F_count_of (aCons (dB1 (dV 4) opLen) (aCons (dV 1) (aNil)))) (dC (.int 3100)) opGt)) (sRaise 19) (sNext))
    (sSeq (sAsg (dFz (aCons (dTup (aNil)) (aNil))) (gName 5))
    (sSeq (sFor (iRng1 (dV 1)) (gName 6) (w_found_best_1))
    (sSeq (sAsg (dTup (aCons (dC .non) (aCons (dC .non) (aNil)))) (gTup [gName 9, gName 10]))
    (sSeq (sFor (iSeq (dV 5)) (gName 7) (w_found_best_2))
    (sRet (dTup (aCons (dV 10) (aCons (dV 9) (aNil))))))))))))))
def F_found_best : Fn := fnOf 13 b_found_best
/-- best_plan(things, many, sort, goal) -/
def b_best_plan : SM :=
    sRet (dB2 (dCall F_found_best (aCons (dV 0) (aCons (dV 1) (aCons (dV 2) (aCons (dV 3) (aNil)))))) (dC (.int 0)) opIx)
def F_best_plan : Fn := fnOf 4 b_best_plan
/-- best_value(things, many, sort, goal) -/
def b_best_value : SM :=
    sRet (dB2 (dCall F_found_best (aCons (dV 0) (aCons (dV 1) (aCons (dV 2) (aCons (dV 3) (aNil)))))) (dC (.int 1)) opIx)
def F_best_value : Fn := fnOf 4 b_best_value
/-- _law_call_k51(_law_how, _law_arguments) -/
def b__law_call_k51 : SM :=
    sRet (dCallF [(7, F_best_value), (5, F_best_plan)] (dB2 (dTup (aCons (dC (.glb 7)) (aCons (dC (.glb 5)) (aNil)))) (dV 0) opIx) (aCons (dB2 (dV 1) (dC (.int 0)) opIx) (aCons (dB2 (dV 1) (dC (.int 1)) opIx) (aCons (dB2 (dV 1) (dC (.int 2)) opIx) (aCons (dB2 (dV 1) (dC (.int 3)) opIx) (aNil))))))
def F__law_call_k51 : Fn := fnOf 2 b__law_call_k51
/-- _law_outcome_k51(_law_how, _law_arguments, _law_caught, _law_result, error) -/
def b__law_outcome_k51 : SM :=
    sSeq (sAsg (dC .non) (gName 2))
    (sSeq (sAsg (dC .non) (gName 3))
    (sSeq (sTryK 4 2 okL (sAsg (dCall F__law_call_k51 (aCons (dV 0) (aCons (dV 1) (aNil)))) (gName 3)))
    (sSeq (sIf (dTest (dB2 (dV 2) (dC .non) opIs)) (sRet (dTup (aCons (dC (.str [114, 101, 116, 117, 114, 110, 101, 100])) (aCons (dV 3) (aNil))))) (sNext))
    (sRet (dTup (aCons (dC (.str [114, 97, 105, 115, 101, 100])) (aCons (dCall F__law_name (aCons (dV 2) (aNil))) (aNil))))))))
def F__law_outcome_k51 : Fn := fnOf 5 b__law_outcome_k51
def w_law_k51_1 : SM :=
    sIf (bOr (dTest (dB2 (dCall F_best_value (aCons (dC (.int 1)) (aCons (dV 2) (aCons (dV 3) (aCons (dV 4) (aNil)))))) (dTup (aCons (dC (.int 1)) (aCons (dV 2) (aNil)))) opNe)) (dTest (dB2 (dCall F_best_plan (aCons (dC (.int 1)) (aCons (dV 2) (aCons (dV 3) (aCons (dV 4) (aNil)))))) (dB2 (dTup (aCons (dTup (aCons (dC (.int 1)) (aNil))) (aNil))) (dV 2) opMul) opNe))) (sRet (dC (.bl false))) (sNext)
def c_law_k51_1 : LM :=
    lLc [7] (iSeq (dTup (aCons (dC .non) (aCons (dC (.int 0)) (aCons (dC (.int 5)) (aCons (dC (.bl true)) (aCons (dC (.str [49])) (aNil)))))))) (gName 7) (bTrue) (dTup (aCons (dC (.int 0)) (aCons (dTup (aCons (dV 7) (aCons (dC (.int 2)) (aCons (dC (.str [98, 111, 116, 104])) (aCons (dC (.str [115, 117, 109])) (aNil)))))) (aCons (dC (.str [116, 104, 105, 110, 103, 115])) (aNil)))))
def c_law_k51_2 : LM :=
    lLc [7] (iSeq (dTup (aCons (dC .non) (aCons (dC (.int 1)) (aCons (dC (.int 9)) (aCons (dC (.bl true)) (aCons (dC (.str [50])) (aNil)))))))) (gName 7) (bTrue) (dTup (aCons (dC (.int 1)) (aCons (dTup (aCons (dC (.int 2)) (aCons (dV 7) (aCons (dC (.str [98, 111, 116, 104])) (aCons (dC (.str [115, 117, 109])) (aNil)))))) (aCons (dC (.str [99, 111, 117, 110, 116])) (aNil)))))
def c_law_k51_3 : LM :=
    lLc [7] (iSeq (dTup (aCons (dC .non) (aCons (dC (.str [])) (aCons (dC (.str [116, 119, 111])) (aCons (dC (.int 1)) (aCons (dFz (aCons (dC (.str [98, 111, 116, 104])) (aNil))) (aNil)))))))) (gName 7) (bTrue) (dTup (aCons (dC (.int 0)) (aCons (dTup (aCons (dC (.int 2)) (aCons (dC (.int 2)) (aCons (dV 7) (aCons (dC (.str [115, 117, 109])) (aNil)))))) (aCons (dC (.str [115, 111, 114, 116])) (aNil)))))
def c_law_k51_4 : LM :=
    lLc [7] (iSeq (dTup (aCons (dC .non) (aCons (dC (.str [])) (aCons (dC (.str [108, 101, 97, 115, 116])) (aCons (dC (.int 1)) (aCons (dTup (aCons (dC (.str [115, 117, 109])) (aNil))) (aNil)))))))) (gName 7) (bTrue) (dTup (aCons (dC (.int 1)) (aCons (dTup (aCons (dC (.int 2)) (aCons (dC (.int 2)) (aCons (dC (.str [111, 110, 101])) (aCons (dV 7) (aNil)))))) (aCons (dC (.str [103, 111, 97, 108])) (aNil)))))
def c_law_k51_5 : LM :=
    lLc [8] (iSeq (dG 6)) (gName 8) (dTest (dB2 (dCall F__law_outcome_k51 (aCons (dB2 (dV 8) (dC (.int 0)) opIx) (aCons (dB2 (dV 8) (dC (.int 1)) opIx) (aNil)))) (dCall F__law_raises (aCons (dB2 (dV 8) (dC (.int 2)) opIx) (aNil))) opNe)) (dV 8)
def s_law_k51_1 : SM :=
    sAsg (dCall F__law_town (aCons (dV 0) (aNil))) (gName 1)
def s_law_k51_2 : SM :=
    sAsg (dB2 (dC (.int 1)) (dCall F__law_draw (aCons (dV 0) (aCons (dV 1) (aCons (dC (.int 8)) (aNil))))) opAdd) (gName 2)
def s_law_k51_3 : SM :=
    sAsg (dCall F__law_pick (aCons (dV 0) (aCons (dV 1) (aCons (dFz (aCons (dC (.str [98, 111, 116, 104])) (aCons (dC (.str [111, 110, 101])) (aNil)))) (aNil))))) (gName 3)
def s_law_k51_4 : SM :=
    sFor (iSeq (dTup (aCons (dC (.str [115, 117, 109])) (aCons (dC (.str [119, 111, 114, 115, 116])) (aCons (dC (.str [119, 104, 111, 108, 101])) (aNil)))))) (gName 4) (w_law_k51_1)
def s_law_k51_5 : SM :=
    sAsg (dB2 (dC (.int 2)) (dB2 (dC (.int 1)) (dCall F__law_draw (aCons (dV 0) (aCons (dV 1) (aCons (dC (.int 4)) (aNil))))) opAdd) opMul) (gName 5)
def s_law_k51_6 : SM :=
    sIf (bOr (dTest (dB2 (dCall F_best_value (aCons (dC (.int 2)) (aCons (dV 5) (aCons (dC (.str [98, 111, 116, 104])) (aCons (dC (.str [115, 117, 109])) (aNil)))))) (dCall F__law_ratio (aCons (dC (.int 2)) (aCons (dV 5) (aNil)))) opNe)) (dTest (dB2 (dCall F_best_value (aCons (dC (.int 2)) (aCons (dV 5) (aCons (dC (.str [98, 111, 116, 104])) (aCons (dC (.str [119, 111, 114, 115, 116])) (aNil)))))) (dTup (aCons (dC (.int 1)) (aCons (dV 5) (aNil)))) opNe))) (sRet (dC (.bl false))) (sNext)
def s_law_k51_7 : SM :=
    sIf (dTest (dB2 (dCall F_best_plan (aCons (dC (.int 2)) (aCons (dV 5) (aCons (dC (.str [98, 111, 116, 104])) (aCons (dC (.str [119, 111, 114, 115, 116])) (aNil)))))) (dB2 (dB2 (dTup (aCons (dTup (aCons (dC (.int 1)) (aCons (dB1 (dC (.int 1)) opNeg) (aNil)))) (aNil))) (dB2 (dV 5) (dC (.int 2)) opDiv) opMul) (dB2 (dTup (aCons (dTup (aCons (dC (.int 1)) (aCons (dC (.int 1)) (aNil)))) (aNil))) (dB2 (dV 5) (dC (.int 2)) opDiv) opMul) opAdd) opNe)) (sRet (dC (.bl false))) (sNext)
def s_law_k51_8 : SM :=
    sIf (bOr (dTest (dB2 (dCall F_best_value (aCons (dC (.int 2)) (aCons (dV 5) (aCons (dC (.str [98, 111, 116, 104])) (aCons (dC (.str [119, 104, 111, 108, 101])) (aNil)))))) (dTup (aCons (dC (.int 1)) (aCons (dB2 (dV 5) (dV 5) opMul) (aNil)))) opNe)) (dTest (dB2 (dCall F_best_value (aCons (dC (.int 2)) (aCons (dC (.int 2)) (aCons (dC (.str [111, 110, 101])) (aCons (dC (.str [115, 117, 109])) (aNil)))))) (dTup (aCons (dC (.int 2)) (aCons (dC (.int 1)) (aNil)))) opNe))) (sRet (dC (.bl false))) (sNext)
def s_law_k51_9 : SM :=
    sIf (dTest (dB2 (dCall F_best_value (aCons (dC (.int 3)) (aCons (dC (.int 3)) (aCons (dC (.str [111, 110, 101])) (aCons (dC (.str [119, 104, 111, 108, 101])) (aNil)))))) (dTup (aCons (dC (.int 1)) (aCons (dC (.int 4)) (aNil)))) opNe)) (sRet (dC (.bl false))) (sNext)
def s_law_k51_10 : SM :=
    sIf (dTest (dB2 (dCall F_best_plan (aCons (dC (.int 3)) (aCons (dC (.int 3)) (aCons (dC (.str [111, 110, 101])) (aCons (dC (.str [119, 104, 111, 108, 101])) (aNil)))))) (dTup (aCons (dTup (aCons (dC (.int 0)) (aCons (dC (.int 1)) (aCons (dC (.int 1)) (aNil))))) (aCons (dTup (aCons (dC (.int 1)) (aCons (dC (.int 0)) (aCons (dC (.int 1)) (aNil))))) (aCons (dTup (aCons (dC (.int 1)) (aCons (dC (.int 1)) (aCons (dC (.int 0)) (aNil))))) (aNil))))) opNe)) (sRet (dC (.bl false))) (sNext)
def s_law_k51_11 : SM :=
    sIf (bOr (dTest (dB2 (dCall F_best_value (aCons (dC (.int 3)) (aCons (dC (.int 3)) (aCons (dC (.str [98, 111, 116, 104])) (aCons (dC (.str [119, 104, 111, 108, 101])) (aNil)))))) (dTup (aCons (dC (.int 1)) (aCons (dC (.int 16)) (aNil)))) opNe)) (dTest (dB2 (dCall F_best_value (aCons (dC (.int 3)) (aCons (dC (.int 3)) (aCons (dC (.str [111, 110, 101])) (aCons (dC (.str [115, 117, 109])) (aNil)))))) (dTup (aCons (dC (.int 9)) (aCons (dC (.int 4)) (aNil)))) opNe))) (sRet (dC (.bl false))) (sNext)
def s_law_k51_12 : SM :=
    sOwn 6 (c_law_k51_1)
def s_law_k51_13 : SM :=
    sOwn 6 (dB2F (dO 6) (dFz (c_law_k51_2)) lsAdd)
def s_law_k51_14 : SM :=
    sOwn 6 (dB2F (dO 6) (dFz (c_law_k51_3)) lsAdd)
def s_law_k51_15 : SM :=
    sOwn 6 (dB2F (dO 6) (dFz (c_law_k51_4)) lsAdd)
def s_law_k51_16 : SM :=
    sOwn 6 (dB2F (dO 6) (dFz (aCons (dTup (aCons (dC (.int 0)) (aCons (dTup (aCons (dC (.int 3)) (aCons (dC (.int 5)) (aCons (dC (.str [98, 111, 116, 104])) (aCons (dC (.str [115, 117, 109])) (aNil)))))) (aCons (dC (.str [109, 97, 110, 121])) (aNil))))) (aCons (dTup (aCons (dC (.int 1)) (aCons (dTup (aCons (dC (.int 4)) (aCons (dC (.int 4)) (aCons (dC (.str [98, 111, 116, 104])) (aCons (dC (.str [119, 104, 111, 108, 101])) (aNil)))))) (aCons (dC (.str [109, 97, 110, 121])) (aNil))))) (aNil)))) lsAdd)
def s_law_k51_17 : SM :=
    sDrop (dApp (dO 6) (dTup (aCons (dC (.int 0)) (aCons (dTup (aCons (dC (.int 4)) (aCons (dC (.int 5)) (aCons (dC (.str [111, 110, 101])) (aCons (dC (.str [115, 117, 109])) (aNil)))))) (aCons (dC (.str [109, 97, 110, 121])) (aNil))))))
def s_law_k51_18 : SM :=
    sOwn 6 (dB2F (dO 6) (dFz (aCons (dTup (aCons (dC (.int 1)) (aCons (dTup (aCons (dC (.int 3)) (aCons (dC (.int 6)) (aCons (dC (.str [98, 111, 116, 104])) (aCons (dC (.str [115, 117, 109])) (aNil)))))) (aCons (dC (.str [109, 97, 110, 121])) (aNil))))) (aCons (dTup (aCons (dC (.int 0)) (aCons (dTup (aCons (dC (.int 5)) (aCons (dC (.int 9)) (aCons (dC (.str [120])) (aCons (dC (.str [121])) (aNil)))))) (aCons (dC (.str [116, 104, 105, 110, 103, 115])) (aNil))))) (aNil)))) lsAdd)
def s_law_k51_19 : SM :=
    sDrop (dApp (dO 6) (dTup (aCons (dC (.int 1)) (aCons (dTup (aCons (dC (.int 3)) (aCons (dC (.int 2)) (aCons (dC (.str [120])) (aCons (dC (.str [121])) (aNil)))))) (aCons (dC (.str [99, 111, 117, 110, 116])) (aNil))))))
def s_law_k51_20 : SM :=
    sRet (dB2 (dFz (c_law_k51_5)) (dFz (aNil)) opEq)
/-- law_k51(_law_script, _law_town_here, _law_many, _law_sort, _law_goal, _law_even, _law_calls, _law_bad, _law_one) -/
def b_law_k51 : SM :=
    sSeq (s_law_k51_1)
    (sSeq (s_law_k51_2)
    (sSeq (s_law_k51_3)
    (sSeq (s_law_k51_4)
    (sSeq (s_law_k51_5)
    (sSeq (s_law_k51_6)
    (sSeq (s_law_k51_7)
    (sSeq (s_law_k51_8)
    (sSeq (s_law_k51_9)
    (sSeq (s_law_k51_10)
    (sSeq (s_law_k51_11)
    (sSeq (s_law_k51_12)
    (sSeq (s_law_k51_13)
    (sSeq (s_law_k51_14)
    (sSeq (s_law_k51_15)
    (sSeq (s_law_k51_16)
    (sSeq (s_law_k51_17)
    (sSeq (s_law_k51_18)
    (sSeq (s_law_k51_19)
    (s_law_k51_20)))))))))))))))))))
def F_law_k51 : Fn := fnOf 9 b_law_k51
end DL

set_option Elab.async false
set_option linter.all false
set_option maxRecDepth 100000
set_option maxHeartbeats 4000000
namespace DL.k51
open PySem PySem.Spec PyProof.Rows L2 DL
def top (i : Nat) : Stmt := PySem.Challenge.pw_weighplans_k51_best_plans_by_hand.main.body.getD i (.Pass ⟨0, 0, 0, 0⟩)
structure Txt (K : PySem.W.Frag) (mg : Str → Option Value) (G : Glb) : Prop where
  d__law_town : Df K mg "_law_town" (top 43) ["_law_script"]
  d__law_draw : Df K mg "_law_draw" (top 44) ["_law_script", "_law_town_here", "_law_limit"]
  d__law_pick : Df K mg "_law_pick" (top 45) ["_law_script", "_law_town_here", "_law_choices"]
  d_is_between : Df K mg "is_between" (top 23) ["value", "low", "high"]
  d_check_things : Df K mg "check_things" (top 28) ["value"]
  d_check_sort : Df K mg "check_sort" (top 29) ["value"]
  d_found_weighings : Df K mg "found_weighings" (top 30) ["things", "sort"]
  d_single_weighings : Df K mg "single_weighings" (top 37) ["things", "sort"]
  d_count_of : Df K mg "count_of" (top 38) ["choices", "many"]
  d_square_of : Df K mg "square_of" (top 34) ["plan"]
  d_determinant : Df K mg "determinant" (top 32) ["table"]
  d_divisor_of : Df K mg "divisor_of" (top 24) ["one", "other"]
  d_fraction : Df K mg "fraction" (top 25) ["top", "bottom"]
  d_without_cross : Df K mg "without_cross" (top 33) ["table", "row", "column"]
  d_value_of : Df K mg "value_of" (top 36) ["plan", "goal"]
  d_is_below : Df K mg "is_below" (top 26) ["one", "other"]
  d_found_best : Df K mg "found_best" (top 39) ["things", "many", "sort", "goal"]
  d_best_plan : Df K mg "best_plan" (top 40) ["things", "many", "sort", "goal"]
  d_best_value : Df K mg "best_value" (top 41) ["things", "many", "sort", "goal"]
  d__law_ratio : Df K mg "_law_ratio" (top 49) ["_law_top", "_law_bottom"]
  d__law_call : Df K mg "_law_call" (top 50) ["_law_how", "_law_arguments"]
  d__law_name : Df K mg "_law_name" (top 47) ["_law_caught"]
  d__law_outcome : Df K mg "_law_outcome" (top 46) ["_law_how", "_law_arguments"]
  d__law_raises : Df K mg "_law_raises" (top 48) ["_law_name_here"]
  d_law : Df K mg "law" (top 51) ["_law_script"]
  x_all : ExcAll K mg G
  g_best_plan : Gv mg G "best_plan" 5
  g_best_value : Gv mg G "best_value" 7
  z_ValueError : mg "ValueError" = none
  z_abs : mg "abs" = none
  z_any : mg "any" = none
  z_bool : mg "bool" = none
  z_enumerate : mg "enumerate" = none
  z_int : mg "int" = none
  z_isinstance : mg "isinstance" = none
  z_len : mg "len" = none
  z_list : mg "list" = none
  z_max : mg "max" = none
  z_range : mg "range" = none
  z_str : mg "str" = none
  z_sum : mg "sum" = none
  z_tuple : mg "tuple" = none
  e_WeighError : Ec K mg G "WeighError" 0
  e_InvalidPlan : Ec K mg G "InvalidPlan" 1
  e_InvalidList : Ec K mg G "InvalidList" 2
  e_InvalidSum : Ec K mg G "InvalidSum" 3
  e_InvalidResults : Ec K mg G "InvalidResults" 4
  e_InvalidThings : Ec K mg G "InvalidThings" 5
  e_InvalidSort : Ec K mg G "InvalidSort" 6
  e_InvalidGoal : Ec K mg G "InvalidGoal" 7
  e_InvalidNumber : Ec K mg G "InvalidNumber" 8
  e_InvalidNames : Ec K mg G "InvalidNames" 9
  e_InvalidWeighing : Ec K mg G "InvalidWeighing" 10
  e_InvalidMany : Ec K mg G "InvalidMany" 11
  e_InvalidShares : Ec K mg G "InvalidShares" 12
  e_InvalidText : Ec K mg G "InvalidText" 13
  e_Unequal : Ec K mg G "Unequal" 14
  e_NotTold : Ec K mg G "NotTold" 15
  e_NotSettled : Ec K mg G "NotSettled" 16
  e_NotBorne : Ec K mg G "NotBorne" 17
  e_LastOne : Ec K mg G "LastOne" 18
  e_TooMany : Ec K mg G "TooMany" 19
  e_NothingToUndo : Ec K mg G "NothingToUndo" 20
section
variable {P : Program} {w : World} {K : PySem.W.Frag} {mg : Str → Option Value} {base : Heap} {G : Glb}
theorem sc__law_town : FnScope ["_law_script"] ["_law_script"] (defScope (top 43)) := ⟨rfl, rfl, rfl, by decide +kernel, rfl, by decide +kernel, by decide +kernel⟩
theorem f__law_town (M : Txt K mg G) : FnD P w K mg base G "_law_town" 1 1 F__law_town := fnD_of (k := 0) (N := ["_law_script"]) M.d__law_town sc__law_town rfl rfl <| fun f cdv A outer s H E hr => by
  have sc := sc__law_town
  have bk : ∀ {scope : Scope} {own : List (Str × Nat)}, blkC ["_law_script"] (defScope (top 43)) scope own = true → BlkOk ["_law_script"] (defScope (top 43)) scope own := fun h => blkOk_by h
  have tk := takes_of (X := cxOf (L2.CX P w) P w K mg base ["_law_script"] "_law_town" (defScope (top 43)) f cdv A outer s H E) rfl rfl rfl rfl
  have po := passes_of (X := cxOf (L2.CX P w) P w K mg base ["_law_script"] "_law_town" (defScope (top 43)) f cdv A outer s H E) (K := fun e s'' => L2.CX P w outer H s E e s'') rfl
  exact (dss_one (ds_ret ((df_add (((df_lst (da_cons (dp_int) (da_nil))).dp).de) ((dp_t1 cd_list (by rfl) M.z_list PyProof.Rows.boot_list ((dp_v 0).de)).de)).new)))
theorem sc__law_draw : FnScope ["_law_script", "_law_town_here", "_law_limit", "_law_at", "_law_left", "_law_number"] ["_law_script", "_law_town_here", "_law_limit"] (defScope (top 44)) := ⟨rfl, rfl, rfl, by decide +kernel, rfl, by decide +kernel, by decide +kernel⟩
theorem f__law_draw (M : Txt K mg G) : FnD P w K mg base G "_law_draw" 1 3 F__law_draw := fnD_of (k := 0) (N := ["_law_script", "_law_town_here", "_law_limit", "_law_at", "_law_left", "_law_number"]) M.d__law_draw sc__law_draw rfl rfl <| fun f cdv A outer s H E hr => by
  have sc := sc__law_draw
  have bk : ∀ {scope : Scope} {own : List (Str × Nat)}, blkC ["_law_script", "_law_town_here", "_law_limit", "_law_at", "_law_left", "_law_number"] (defScope (top 44)) scope own = true → BlkOk ["_law_script", "_law_town_here", "_law_limit", "_law_at", "_law_left", "_law_number"] (defScope (top 44)) scope own := fun h => blkOk_by h
  have tk := takes_of (X := cxOf (L2.CX P w) P w K mg base ["_law_script", "_law_town_here", "_law_limit", "_law_at", "_law_left", "_law_number"] "_law_draw" (defScope (top 44)) f cdv A outer s H E) rfl rfl rfl rfl
  have po := passes_of (X := cxOf (L2.CX P w) P w K mg base ["_law_script", "_law_town_here", "_law_limit", "_law_at", "_law_left", "_law_number"] "_law_draw" (defScope (top 44)) f cdv A outer s H E) (K := fun e s'' => L2.CX P w outer H s E e s'') rfl
  exact (dss_cons (ds_asg (dp_op od_add ((dp_ix ((dp_v 1).de) ((dp_int).de)).de) ((dp_int).de)) (dg_sub ((dp_v 1).de) (dp_int)))
    (dss_cons (ds_if (dt_cmp (od_eq (u64 hr)) ((dp_v 0).de) (((df_lst (da_nil)).dp).de)) (dss_one (ds_ret (dp_op od_mod ((dp_op od_div ((dp_op od_mul ((dp_op od_mul ((dp_ix ((dp_v 1).de) ((dp_int).de)).de) ((dp_ix ((dp_v 1).de) ((dp_int).de)).de)).de) ((dp_int).de)).de) ((dp_int).de)).de) ((dp_v 2).de)))) (dss_nil))
    (dss_cons (ds_set (i := 3) (dp_op od_mod ((dp_ix ((dp_v 1).de) ((dp_int).de)).de) ((dp_b1 cd_len (by rfl) M.z_len PySem.boot_len ((dp_v 0).de)).de)) sc.nd)
    (dss_cons (ds_set (i := 4) (dp_ix ((dp_v 1).de) ((dp_op od_add ((dp_int).de) ((dp_v 3).de)).de)) sc.nd)
    (dss_cons (ds_if (dt_w (dw_and (dt_cmp od_ge ((dp_ix ((dp_v 0).de) ((dp_v 3).de)).de) ((dp_op od_pow ((dp_int).de) ((dp_int).de)).de)) (dw_and1 (dt_cmp od_gt ((dp_v 4).de) ((dp_int).de))))) (dss_cons (ds_asg (dp_op od_div ((dp_v 4).de) ((dp_v 2).de)) (dg_sub ((dp_v 1).de) (dp_op od_add ((dp_int).de) ((dp_v 3).de))))
    (dss_one (ds_ret (dp_op od_mod ((dp_v 4).de) ((dp_v 2).de))))) (dss_nil))
    (dss_cons (ds_set (i := 5) (dp_op od_mod ((dp_op od_add ((dp_ix ((dp_v 0).de) ((dp_v 3).de)).de) ((dp_op od_mul ((dp_int).de) ((dp_ix ((dp_v 1).de) ((dp_int).de)).de)).de)).de) ((dp_int).de)) sc.nd)
    (dss_cons (ds_set (i := 5) (dp_op od_mod ((dp_op od_pow ((dp_v 5).de) ((dp_int).de)).de) ((dp_int).de)) sc.nd)
    (dss_one (ds_ret (dp_op od_mod ((dp_op od_div ((dp_op od_mod ((dp_op od_add ((dp_op od_mul ((dp_op od_div ((dp_v 5).de) ((dp_int).de)).de) ((dp_int).de)).de) ((dp_v 5).de)).de) ((dp_int).de)).de) ((dp_int).de)).de) ((dp_v 2).de)))))))))))
theorem sc__law_pick : FnScope ["_law_script", "_law_town_here", "_law_choices"] ["_law_script", "_law_town_here", "_law_choices"] (defScope (top 45)) := ⟨rfl, rfl, rfl, by decide +kernel, rfl, by decide +kernel, by decide +kernel⟩
theorem f__law_pick (M : Txt K mg G) : FnD P w K mg base G "_law_pick" 2 3 F__law_pick := fnD_of (k := 1) (N := ["_law_script", "_law_town_here", "_law_choices"]) M.d__law_pick sc__law_pick rfl rfl <| fun f cdv A outer s H E hr => by
  have sc := sc__law_pick
  have bk : ∀ {scope : Scope} {own : List (Str × Nat)}, blkC ["_law_script", "_law_town_here", "_law_choices"] (defScope (top 45)) scope own = true → BlkOk ["_law_script", "_law_town_here", "_law_choices"] (defScope (top 45)) scope own := fun h => blkOk_by h
  have tk := takes_of (X := cxOf (L2.CX P w) P w K mg base ["_law_script", "_law_town_here", "_law_choices"] "_law_pick" (defScope (top 45)) f cdv A outer s H E) rfl rfl rfl rfl
  have po := passes_of (X := cxOf (L2.CX P w) P w K mg base ["_law_script", "_law_town_here", "_law_choices"] "_law_pick" (defScope (top 45)) f cdv A outer s H E) (K := fun e s'' => L2.CX P w outer H s E e s'') rfl
  exact (dss_one (ds_ret (dp_ix ((dp_v 2).de) ((dp_call (f__law_draw M) (hr.mono (by first | decide | omega)) tk (da_cons (dp_v 0) (da_cons (dp_v 1) (da_cons (dp_b1 cd_len (by rfl) M.z_len PySem.boot_len ((dp_v 2).de)) (da_nil))))).de))))
theorem sc_is_between : FnScope ["value", "low", "high"] ["value", "low", "high"] (defScope (top 23)) := ⟨rfl, rfl, rfl, by decide +kernel, rfl, by decide +kernel, by decide +kernel⟩
theorem f_is_between (M : Txt K mg G) : FnD P w K mg base G "is_between" 1 3 F_is_between := fnD_of (k := 0) (N := ["value", "low", "high"]) M.d_is_between sc_is_between rfl rfl <| fun f cdv A outer s H E hr => by
  have sc := sc_is_between
  have bk : ∀ {scope : Scope} {own : List (Str × Nat)}, blkC ["value", "low", "high"] (defScope (top 23)) scope own = true → BlkOk ["value", "low", "high"] (defScope (top 23)) scope own := fun h => blkOk_by h
  have tk := takes_of (X := cxOf (L2.CX P w) P w K mg base ["value", "low", "high"] "is_between" (defScope (top 23)) f cdv A outer s H E) rfl rfl rfl rfl
  have po := passes_of (X := cxOf (L2.CX P w) P w K mg base ["value", "low", "high"] "is_between" (defScope (top 23)) f cdv A outer s H E) (K := fun e s'' => L2.CX P w outer H s E e s'') rfl
  exact (dss_one (ds_ret (dp_and (dp_isi .int (by decide) M.z_isinstance M.z_int (by decide +kernel) ((dp_v 0).de)) (dp_and (dp_not (dp_isi .bl (by decide) M.z_isinstance M.z_bool (by decide +kernel) ((dp_v 0).de))) (dp_one (dp_chain (od_le2 (u0 hr)) (od_le2 (u0 hr)) ((dp_v 1).de) ((dp_v 0).de) ((dp_v 2).de)))))))
theorem sc_check_things : FnScope ["value"] ["value"] (defScope (top 28)) := ⟨rfl, rfl, rfl, by decide +kernel, rfl, by decide +kernel, by decide +kernel⟩
theorem f_check_things (M : Txt K mg G) : FnD P w K mg base G "check_things" 2 1 F_check_things := fnD_of (k := 1) (N := ["value"]) M.d_check_things sc_check_things rfl rfl <| fun f cdv A outer s H E hr => by
  have sc := sc_check_things
  have bk : ∀ {scope : Scope} {own : List (Str × Nat)}, blkC ["value"] (defScope (top 28)) scope own = true → BlkOk ["value"] (defScope (top 28)) scope own := fun h => blkOk_by h
  have tk := takes_of (X := cxOf (L2.CX P w) P w K mg base ["value"] "check_things" (defScope (top 28)) f cdv A outer s H E) rfl rfl rfl rfl
  have po := passes_of (X := cxOf (L2.CX P w) P w K mg base ["value"] "check_things" (defScope (top 28)) f cdv A outer s H E) (K := fun e s'' => L2.CX P w outer H s E e s'') rfl
  exact (dss_one (ds_if (dt_not (dt_val (dp_call (f_is_between M) (hr.mono (by first | decide | omega)) tk (da_cons (dp_v 0) (da_cons (dp_int) (da_cons (dp_int) (da_nil))))))) (dss_one (ds_raise M.e_InvalidThings tk rfl)) (dss_nil)))
theorem sc_check_sort : FnScope ["value"] ["value"] (defScope (top 29)) := ⟨rfl, rfl, rfl, by decide +kernel, rfl, by decide +kernel, by decide +kernel⟩
theorem f_check_sort (M : Txt K mg G) : FnD P w K mg base G "check_sort" 1 1 F_check_sort := fnD_of (k := 0) (N := ["value"]) M.d_check_sort sc_check_sort rfl rfl <| fun f cdv A outer s H E hr => by
  have sc := sc_check_sort
  have bk : ∀ {scope : Scope} {own : List (Str × Nat)}, blkC ["value"] (defScope (top 29)) scope own = true → BlkOk ["value"] (defScope (top 29)) scope own := fun h => blkOk_by h
  have tk := takes_of (X := cxOf (L2.CX P w) P w K mg base ["value"] "check_sort" (defScope (top 29)) f cdv A outer s H E) rfl rfl rfl rfl
  have po := passes_of (X := cxOf (L2.CX P w) P w K mg base ["value"] "check_sort" (defScope (top 29)) f cdv A outer s H E) (K := fun e s'' => L2.CX P w outer H s E e s'') rfl
  exact (dss_one (ds_if (dt_w (dw_or (dt_not (dt_val (dp_isi .str (by decide) M.z_isinstance M.z_str (by decide +kernel) ((dp_v 0).de)))) (dw_or1 (dt_cmp (od_notIn (u65 hr)) ((dp_v 0).de) ((dp_tup (da_cons (dp_str [98, 111, 116, 104]) (da_cons (dp_str [111, 110, 101]) (da_nil)))).de))))) (dss_one (ds_raise M.e_InvalidSort tk rfl)) (dss_nil)))
theorem sc_found_weighings : FnScope ["things", "sort", "low", "rows", "thing", "row", "one"] ["things", "sort"] (defScope (top 30)) := ⟨rfl, rfl, rfl, by decide +kernel, rfl, by decide +kernel, by decide +kernel⟩
theorem f_found_weighings (M : Txt K mg G) : FnD P w K mg base G "found_weighings" 1 2 F_found_weighings := fnD_of (k := 0) (N := ["things", "sort", "low", "rows", "thing", "row", "one"]) M.d_found_weighings sc_found_weighings rfl rfl <| fun f cdv A outer s H E hr => by
  have sc := sc_found_weighings
  have bk : ∀ {scope : Scope} {own : List (Str × Nat)}, blkC ["things", "sort", "low", "rows", "thing", "row", "one"] (defScope (top 30)) scope own = true → BlkOk ["things", "sort", "low", "rows", "thing", "row", "one"] (defScope (top 30)) scope own := fun h => blkOk_by h
  have tk := takes_of (X := cxOf (L2.CX P w) P w K mg base ["things", "sort", "low", "rows", "thing", "row", "one"] "found_weighings" (defScope (top 30)) f cdv A outer s H E) rfl rfl rfl rfl
  have po := passes_of (X := cxOf (L2.CX P w) P w K mg base ["things", "sort", "low", "rows", "thing", "row", "one"] "found_weighings" (defScope (top 30)) f cdv A outer s H E) (K := fun e s'' => L2.CX P w outer H s E e s'') rfl
  exact (dss_cons (ds_asg (dp_tup (da_cons (dp_if (dt_cmp (od_eq (u64 hr)) ((dp_v 1).de) ((dp_str [98, 111, 116, 104]).de)) (dp_un un_negD ((dp_int).de)) (dp_int)) (da_cons ((df_lst (da_cons (dp_tup (da_nil)) (da_nil))).dp) (da_nil)))) (dg_tup rfl (dgs_cons (dg_name (i := 2) sc.nd) (dgs_cons (dg_name (i := 3) sc.nd) (dgs_nil)))))
    (dss_cons (ds_for po rfl (di_rng1 M.z_range (dp_v 0)) (dg_name (i := 4) sc.nd) (dss_one (ds_valLc2 (i := 3) (own := [("row", 5), ("one", 6)]) (vs1 := [6]) rfl sc.nd (di_seq (dp_v 3)) (bk (by decide +kernel)) ⟨fun _ _ _ _ _ => dg_name (i := 5) sc.nd, fun _ _ _ _ _ => dts_nil, fun _ _ _ _ _ => di_rng2 M.z_range (dp_v 2) (dp_int), fun _ _ _ _ _ => dg_name (i := 6) sc.nd, fun _ _ _ _ _ => dts_nil, fun _ _ _ _ _ => dp_op od_add ((dp_v 5).de) ((dp_tup (da_cons (dp_v 6) (da_nil))).de)⟩ (by decide) (by decide) (by decide))))
    (dss_one (ds_ret ((df_lc (own := [("row", 5)]) rfl sc.nd (di_seq (dp_v 3)) (bk (by decide +kernel)) ⟨fun _ _ _ _ _ => dg_name (i := 5) sc.nd, fun _ _ _ _ _ => dts_one (dt_val (dp_b1 (cd_any rfl) (by rfl) M.z_any (by decide +kernel) ((dp_v 5).de))), fun _ _ _ _ _ => dp_v 5⟩ (by decide)).dp)))))
theorem sc_single_weighings : FnScope ["things", "sort", "row", "one"] ["things", "sort"] (defScope (top 37)) := ⟨rfl, rfl, rfl, by decide +kernel, rfl, by decide +kernel, by decide +kernel⟩
theorem f_single_weighings (M : Txt K mg G) : FnD P w K mg base G "single_weighings" 2 2 F_single_weighings := fnD_of (k := 1) (N := ["things", "sort", "row", "one"]) M.d_single_weighings sc_single_weighings rfl rfl <| fun f cdv A outer s H E hr => by
  have sc := sc_single_weighings
  have bk : ∀ {scope : Scope} {own : List (Str × Nat)}, blkC ["things", "sort", "row", "one"] (defScope (top 37)) scope own = true → BlkOk ["things", "sort", "row", "one"] (defScope (top 37)) scope own := fun h => blkOk_by h
  have bk2 : ∀ {s1 scope : Scope} {own : List (Str × Nat)}, blkC ["things", "sort", "row", "one"] (relS s1 (defScope (top 37))) scope own = true → BlkOk ["things", "sort", "row", "one"] (relS s1 (defScope (top 37))) scope own := fun h => blkOk_by h
  have tk := takes_of (X := cxOf (L2.CX P w) P w K mg base ["things", "sort", "row", "one"] "single_weighings" (defScope (top 37)) f cdv A outer s H E) rfl rfl rfl rfl
  have po := passes_of (X := cxOf (L2.CX P w) P w K mg base ["things", "sort", "row", "one"] "single_weighings" (defScope (top 37)) f cdv A outer s H E) (K := fun e s'' => L2.CX P w outer H s E e s'') rfl
  exact (dss_one (ds_ret ((df_lc (own := [("row", 2)]) rfl sc.nd (di_seq (dp_call (f_found_weighings M) (hr.mono (by first | decide | omega)) tk (da_cons (dp_v 0) (da_cons (dp_v 1) (da_nil))))) (bk (by decide +kernel)) ⟨fun _ _ _ _ _ => dg_name (i := 2) sc.nd, fun _ _ _ _ _ => dts_one (dt_cmp (od_eq (u64 hr)) ((dp_ix (((df_lc (own := [("one", 3)]) rfl sc.nd (di_seq (dp_v 2)) (bk2 (by decide +kernel)) ⟨fun _ _ _ _ _ => dg_name (i := 3) sc.nd, fun _ _ _ _ _ => dts_one (dt_cmp (od_ne (u64 hr)) ((dp_v 3).de) ((dp_int).de)), fun _ _ _ _ _ => dp_v 3⟩ (by decide)).dp).de) ((dp_int).de)).de) ((dp_int).de)), fun _ _ _ _ _ => dp_v 2⟩ (by decide)).dp)))
theorem sc_count_of : FnScope ["choices", "many", "found", "k"] ["choices", "many"] (defScope (top 38)) := ⟨rfl, rfl, rfl, by decide +kernel, rfl, by decide +kernel, by decide +kernel⟩
theorem f_count_of (M : Txt K mg G) : FnD P w K mg base G "count_of" 1 2 F_count_of := fnD_of (k := 0) (N := ["choices", "many", "found", "k"]) M.d_count_of sc_count_of rfl rfl <| fun f cdv A outer s H E hr => by
  have sc := sc_count_of
  have bk : ∀ {scope : Scope} {own : List (Str × Nat)}, blkC ["choices", "many", "found", "k"] (defScope (top 38)) scope own = true → BlkOk ["choices", "many", "found", "k"] (defScope (top 38)) scope own := fun h => blkOk_by h
  have tk := takes_of (X := cxOf (L2.CX P w) P w K mg base ["choices", "many", "found", "k"] "count_of" (defScope (top 38)) f cdv A outer s H E) rfl rfl rfl rfl
  have po := passes_of (X := cxOf (L2.CX P w) P w K mg base ["choices", "many", "found", "k"] "count_of" (defScope (top 38)) f cdv A outer s H E) (K := fun e s'' => L2.CX P w outer H s E e s'') rfl
  exact (dss_cons (ds_set (i := 2) (dp_int) sc.nd)
    (dss_cons (ds_for po rfl (di_rng1 M.z_range (dp_v 1)) (dg_name (i := 3) sc.nd) (dss_one (ds_set (i := 2) (dp_op od_div ((dp_op od_mul ((dp_v 2).de) ((dp_op od_add ((dp_v 0).de) ((dp_v 3).de)).de)).de) ((dp_op od_add ((dp_v 3).de) ((dp_int).de)).de)) sc.nd)))
    (dss_one (ds_ret (dp_v 2)))))
theorem sc_square_of : FnScope ["plan", "things", "row", "i", "j"] ["plan"] (defScope (top 34)) := ⟨rfl, rfl, rfl, by decide +kernel, rfl, by decide +kernel, by decide +kernel⟩
theorem f_square_of (M : Txt K mg G) : FnD P w K mg base G "square_of" 1 1 F_square_of := fnD_of (k := 0) (N := ["plan", "things", "row", "i", "j"]) M.d_square_of sc_square_of rfl rfl <| fun f cdv A outer s H E hr => by
  have sc := sc_square_of
  have bk : ∀ {scope : Scope} {own : List (Str × Nat)}, blkC ["plan", "things", "row", "i", "j"] (defScope (top 34)) scope own = true → BlkOk ["plan", "things", "row", "i", "j"] (defScope (top 34)) scope own := fun h => blkOk_by h
  have bk2 : ∀ {s1 scope : Scope} {own : List (Str × Nat)}, blkC ["plan", "things", "row", "i", "j"] (relS s1 (defScope (top 34))) scope own = true → BlkOk ["plan", "things", "row", "i", "j"] (relS s1 (defScope (top 34))) scope own := fun h => blkOk_by h
  have bk3 : ∀ {s1 s2 scope : Scope} {own : List (Str × Nat)}, blkC ["plan", "things", "row", "i", "j"] (relS s2 (relS s1 (defScope (top 34)))) scope own = true → BlkOk ["plan", "things", "row", "i", "j"] (relS s2 (relS s1 (defScope (top 34)))) scope own := fun h => blkOk_by h
  have tk := takes_of (X := cxOf (L2.CX P w) P w K mg base ["plan", "things", "row", "i", "j"] "square_of" (defScope (top 34)) f cdv A outer s H E) rfl rfl rfl rfl
  have po := passes_of (X := cxOf (L2.CX P w) P w K mg base ["plan", "things", "row", "i", "j"] "square_of" (defScope (top 34)) f cdv A outer s H E) (K := fun e s'' => L2.CX P w outer H s E e s'') rfl
  exact (dss_cons (ds_set (i := 1) (dp_b1 cd_len (by rfl) M.z_len PySem.boot_len ((dp_ix ((dp_v 0).de) ((dp_int).de)).de)) sc.nd)
    (dss_one (ds_ret ((df_lc (own := [("i", 3)]) rfl sc.nd (di_rng1 M.z_range (dp_v 1)) (bk (by decide +kernel)) ⟨fun _ _ _ _ _ => dg_name (i := 3) sc.nd, fun _ _ _ _ _ => dts_nil, fun _ _ _ _ _ => (df_lc (own := [("j", 4)]) rfl sc.nd (di_rng1 M.z_range (dp_v 1)) (bk2 (by decide +kernel)) ⟨fun _ _ _ _ _ => dg_name (i := 4) sc.nd, fun _ _ _ _ _ => dts_nil, fun _ _ _ _ _ => dp_b1 (cd_sum rfl) (by rfl) M.z_sum (by decide +kernel) (((df_lc (own := [("row", 2)]) rfl sc.nd (di_seq (dp_v 0)) (bk3 (by decide +kernel)) ⟨fun _ _ _ _ _ => dg_name (i := 2) sc.nd, fun _ _ _ _ _ => dts_nil, fun _ _ _ _ _ => dp_op od_mul ((dp_ix ((dp_v 2).de) ((dp_v 3).de)).de) ((dp_ix ((dp_v 2).de) ((dp_v 4).de)).de)⟩ (by decide)).dp).de)⟩ (by decide)).dp⟩ (by decide)).dp))))
theorem sc_determinant : FnScope ["table", "found", "k", "one", "rest", "row"] ["table"] (defScope (top 32)) := ⟨rfl, rfl, rfl, by decide +kernel, rfl, by decide +kernel, by decide +kernel⟩
theorem r_determinant (M : Txt K mg G) : ∀ n : Nat, FnD P w K mg base G "determinant" (n + 1) 1 (R_determinant n)
  | 0 => fnD_stuck M.d_determinant sc_determinant
  | n + 1 => by
    have self := r_determinant M n
    refine fnD_of (N := ["table", "found", "k", "one", "rest", "row"]) M.d_determinant sc_determinant rfl rfl ?_
    exact fun f cdv A outer s H E hr => by
      have sc := sc_determinant
      have bk : ∀ {scope : Scope} {own : List (Str × Nat)}, blkC ["table", "found", "k", "one", "rest", "row"] (defScope (top 32)) scope own = true → BlkOk ["table", "found", "k", "one", "rest", "row"] (defScope (top 32)) scope own := fun h => blkOk_by h
      have tk := takes_of (X := cxOf (L2.CX P w) P w K mg base ["table", "found", "k", "one", "rest", "row"] "determinant" (defScope (top 32)) f cdv A outer s H E) rfl rfl rfl rfl
      have po := passes_of (X := cxOf (L2.CX P w) P w K mg base ["table", "found", "k", "one", "rest", "row"] "determinant" (defScope (top 32)) f cdv A outer s H E) (K := fun e s'' => L2.CX P w outer H s E e s'') rfl
      exact (dss_cons (ds_if (dt_cmp (od_eq (u64 hr)) ((dp_b1 cd_len (by rfl) M.z_len PySem.boot_len ((dp_v 0).de)).de) ((dp_int).de)) (dss_one (ds_ret (dp_int))) (dss_nil))
        (dss_cons (ds_set (i := 1) (dp_int) sc.nd)
        (dss_cons (ds_for po rfl (di_enum M.z_enumerate (dp_ix ((dp_v 0).de) ((dp_int).de))) (dg_tup rfl (dgs_cons (dg_name (i := 2) sc.nd) (dgs_cons (dg_name (i := 3) sc.nd) (dgs_nil)))) (dss_one (ds_if (dt_cmp (od_ne (u64 hr)) ((dp_v 3).de) ((dp_int).de)) (dss_cons (ds_valLc (i := 4) (own := [("row", 5)]) rfl sc.nd (di_seq (dp_sl ((dp_v 0).de) (do_some (dp_int)) (do_none))) (bk (by decide +kernel)) ⟨fun _ _ _ _ _ => dg_name (i := 5) sc.nd, fun _ _ _ _ _ => dts_nil, fun _ _ _ _ _ => dp_op od_add ((dp_sl ((dp_v 5).de) (do_none) (do_some (dp_v 2))).de) ((dp_sl ((dp_v 5).de) (do_some (dp_op od_add ((dp_v 2).de) ((dp_int).de))) (do_none)).de)⟩ (by decide))
        (dss_one (ds_set (i := 1) (dp_op od_add ((dp_v 1).de) ((dp_op od_mul ((dp_if (dt_cmp (od_eq (u64 hr)) ((dp_op od_mod ((dp_v 2).de) ((dp_int).de)).de) ((dp_int).de)) (dp_v 3) (dp_un un_negD ((dp_v 3).de))).de) ((dp_call self (hr.mono (by first | decide | omega)) tk (da_cons (dp_v 4) (da_nil))).de)).de)) sc.nd))) (dss_nil))))
        (dss_one (ds_ret (dp_v 1))))))
theorem f_determinant (M : Txt K mg G) : FnD P w K mg base G "determinant" 7 1 F_determinant := r_determinant M 6
theorem sc_divisor_of : FnScope ["one", "other"] ["one", "other"] (defScope (top 24)) := ⟨rfl, rfl, rfl, by decide +kernel, rfl, by decide +kernel, by decide +kernel⟩
theorem f_divisor_of (M : Txt K mg G) : FnD P w K mg base G "divisor_of" 1 2 F_divisor_of := fnD_of (k := 0) (N := ["one", "other"]) M.d_divisor_of sc_divisor_of rfl rfl <| fun f cdv A outer s H E hr => by
  have sc := sc_divisor_of
  have bk : ∀ {scope : Scope} {own : List (Str × Nat)}, blkC ["one", "other"] (defScope (top 24)) scope own = true → BlkOk ["one", "other"] (defScope (top 24)) scope own := fun h => blkOk_by h
  have tk := takes_of (X := cxOf (L2.CX P w) P w K mg base ["one", "other"] "divisor_of" (defScope (top 24)) f cdv A outer s H E) rfl rfl rfl rfl
  have po := passes_of (X := cxOf (L2.CX P w) P w K mg base ["one", "other"] "divisor_of" (defScope (top 24)) f cdv A outer s H E) (K := fun e s'' => L2.CX P w outer H s E e s'') rfl
  exact (dss_cons (ds_par2 rfl sc.nd (da_cons (dp_b1 cd_abs (by rfl) M.z_abs (by decide +kernel) ((dp_v 0).de)) (da_cons (dp_b1 cd_abs (by rfl) M.z_abs (by decide +kernel) ((dp_v 1).de)) (da_nil))))
    (dss_cons (ds_while po (dt_cmp (od_ne (u64 hr)) ((dp_v 1).de) ((dp_int).de)) (dss_one (ds_par2 rfl sc.nd (da_cons (dp_v 1) (da_cons (dp_op od_mod ((dp_v 0).de) ((dp_v 1).de)) (da_nil))))))
    (dss_one (ds_ret (dp_v 0)))))
theorem sc_fraction : FnScope ["top", "bottom", "by"] ["top", "bottom"] (defScope (top 25)) := ⟨rfl, rfl, rfl, by decide +kernel, rfl, by decide +kernel, by decide +kernel⟩
theorem f_fraction (M : Txt K mg G) : FnD P w K mg base G "fraction" 2 2 F_fraction := fnD_of (k := 1) (N := ["top", "bottom", "by"]) M.d_fraction sc_fraction rfl rfl <| fun f cdv A outer s H E hr => by
  have sc := sc_fraction
  have bk : ∀ {scope : Scope} {own : List (Str × Nat)}, blkC ["top", "bottom", "by"] (defScope (top 25)) scope own = true → BlkOk ["top", "bottom", "by"] (defScope (top 25)) scope own := fun h => blkOk_by h
  have tk := takes_of (X := cxOf (L2.CX P w) P w K mg base ["top", "bottom", "by"] "fraction" (defScope (top 25)) f cdv A outer s H E) rfl rfl rfl rfl
  have po := passes_of (X := cxOf (L2.CX P w) P w K mg base ["top", "bottom", "by"] "fraction" (defScope (top 25)) f cdv A outer s H E) (K := fun e s'' => L2.CX P w outer H s E e s'') rfl
  exact (dss_cons (ds_set (i := 2) (dp_call (f_divisor_of M) (hr.mono (by first | decide | omega)) tk (da_cons (dp_v 0) (da_cons (dp_v 1) (da_nil)))) sc.nd)
    (dss_cons (ds_set (i := 2) (dp_if (dt_cmp od_gt ((dp_v 1).de) ((dp_int).de)) (dp_v 2) (dp_un un_negD ((dp_v 2).de))) sc.nd)
    (dss_one (ds_ret (dp_tup (da_cons (dp_op od_div ((dp_v 0).de) ((dp_v 2).de)) (da_cons (dp_op od_div ((dp_v 1).de) ((dp_v 2).de)) (da_nil))))))))
theorem sc_without_cross : FnScope ["table", "row", "column", "line", "k"] ["table", "row", "column"] (defScope (top 33)) := ⟨rfl, rfl, rfl, by decide +kernel, rfl, by decide +kernel, by decide +kernel⟩
theorem f_without_cross (M : Txt K mg G) : FnD P w K mg base G "without_cross" 1 3 F_without_cross := fnD_of (k := 0) (N := ["table", "row", "column", "line", "k"]) M.d_without_cross sc_without_cross rfl rfl <| fun f cdv A outer s H E hr => by
  have sc := sc_without_cross
  have bk : ∀ {scope : Scope} {own : List (Str × Nat)}, blkC ["table", "row", "column", "line", "k"] (defScope (top 33)) scope own = true → BlkOk ["table", "row", "column", "line", "k"] (defScope (top 33)) scope own := fun h => blkOk_by h
  have tk := takes_of (X := cxOf (L2.CX P w) P w K mg base ["table", "row", "column", "line", "k"] "without_cross" (defScope (top 33)) f cdv A outer s H E) rfl rfl rfl rfl
  have po := passes_of (X := cxOf (L2.CX P w) P w K mg base ["table", "row", "column", "line", "k"] "without_cross" (defScope (top 33)) f cdv A outer s H E) (K := fun e s'' => L2.CX P w outer H s E e s'') rfl
  exact (dss_one (ds_ret ((df_lc (own := [("k", 4), ("line", 3)]) rfl sc.nd (di_enum M.z_enumerate (dp_v 0)) (bk (by decide +kernel)) ⟨fun _ _ _ _ _ => dg_tup rfl (dgs_cons (dg_name (i := 4) sc.nd) (dgs_cons (dg_name (i := 3) sc.nd) (dgs_nil))), fun _ _ _ _ _ => dts_one (dt_cmp (od_ne (u64 hr)) ((dp_v 4).de) ((dp_v 1).de)), fun _ _ _ _ _ => dp_op od_add ((dp_sl ((dp_v 3).de) (do_none) (do_some (dp_v 2))).de) ((dp_sl ((dp_v 3).de) (do_some (dp_op od_add ((dp_v 2).de) ((dp_int).de))) (do_none)).de)⟩ (by decide)).dp)))
theorem sc_value_of : FnScope ["plan", "goal", "table", "whole", "parts", "k"] ["plan", "goal"] (defScope (top 36)) := ⟨rfl, rfl, rfl, by decide +kernel, rfl, by decide +kernel, by decide +kernel⟩
theorem f_value_of (M : Txt K mg G) : FnD P w K mg base G "value_of" 8 2 F_value_of := fnD_of (k := 7) (N := ["plan", "goal", "table", "whole", "parts", "k"]) M.d_value_of sc_value_of rfl rfl <| fun f cdv A outer s H E hr => by
  have sc := sc_value_of
  have bk : ∀ {scope : Scope} {own : List (Str × Nat)}, blkC ["plan", "goal", "table", "whole", "parts", "k"] (defScope (top 36)) scope own = true → BlkOk ["plan", "goal", "table", "whole", "parts", "k"] (defScope (top 36)) scope own := fun h => blkOk_by h
  have tk := takes_of (X := cxOf (L2.CX P w) P w K mg base ["plan", "goal", "table", "whole", "parts", "k"] "value_of" (defScope (top 36)) f cdv A outer s H E) rfl rfl rfl rfl
  have po := passes_of (X := cxOf (L2.CX P w) P w K mg base ["plan", "goal", "table", "whole", "parts", "k"] "value_of" (defScope (top 36)) f cdv A outer s H E) (K := fun e s'' => L2.CX P w outer H s E e s'') rfl
  exact (dss_cons (ds_set (i := 2) (dp_call (f_square_of M) (hr.mono (by first | decide | omega)) tk (da_cons (dp_v 0) (da_nil))) sc.nd)
    (dss_cons (ds_set (i := 3) (dp_call (f_determinant M) (hr.mono (by first | decide | omega)) tk (da_cons (dp_v 2) (da_nil))) sc.nd)
    (dss_cons (ds_if (dt_cmp (od_eq (u64 hr)) ((dp_v 3).de) ((dp_int).de)) (dss_one (ds_ret (dp_non))) (dss_nil))
    (dss_cons (ds_if (dt_cmp (od_eq (u64 hr)) ((dp_v 1).de) ((dp_str [119, 104, 111, 108, 101]).de)) (dss_one (ds_ret (dp_call (f_fraction M) (hr.mono (by first | decide | omega)) tk (da_cons (dp_int) (da_cons (dp_v 3) (da_nil)))))) (dss_nil))
    (dss_cons (ds_valLc (i := 4) (own := [("k", 5)]) rfl sc.nd (di_rng1 M.z_range (dp_b1 cd_len (by rfl) M.z_len PySem.boot_len ((dp_v 2).de))) (bk (by decide +kernel)) ⟨fun _ _ _ _ _ => dg_name (i := 5) sc.nd, fun _ _ _ _ _ => dts_nil, fun _ _ _ _ _ => dp_call (f_determinant M) (hr.mono (by first | decide | omega)) takes0 (da_cons (dp_call (f_without_cross M) (hr.mono (by first | decide | omega)) takes0 (da_cons (dp_v 2) (da_cons (dp_v 5) (da_cons (dp_v 5) (da_nil))))) (da_nil))⟩ (by decide))
    (dss_one (ds_ret (dp_call (f_fraction M) (hr.mono (by first | decide | omega)) tk (da_cons (dp_if (dt_cmp (od_eq (u64 hr)) ((dp_v 1).de) ((dp_str [115, 117, 109]).de)) (dp_b1 (cd_sum rfl) (by rfl) M.z_sum (by decide +kernel) ((dp_v 4).de)) (dp_b1 (cd_max rfl) (by rfl) M.z_max (by decide +kernel) ((dp_v 4).de))) (da_cons (dp_v 3) (da_nil)))))))))))
theorem sc_is_below : FnScope ["one", "other"] ["one", "other"] (defScope (top 26)) := ⟨rfl, rfl, rfl, by decide +kernel, rfl, by decide +kernel, by decide +kernel⟩
theorem f_is_below (M : Txt K mg G) : FnD P w K mg base G "is_below" 1 2 F_is_below := fnD_of (k := 0) (N := ["one", "other"]) M.d_is_below sc_is_below rfl rfl <| fun f cdv A outer s H E hr => by
  have sc := sc_is_below
  have bk : ∀ {scope : Scope} {own : List (Str × Nat)}, blkC ["one", "other"] (defScope (top 26)) scope own = true → BlkOk ["one", "other"] (defScope (top 26)) scope own := fun h => blkOk_by h
  have tk := takes_of (X := cxOf (L2.CX P w) P w K mg base ["one", "other"] "is_below" (defScope (top 26)) f cdv A outer s H E) rfl rfl rfl rfl
  have po := passes_of (X := cxOf (L2.CX P w) P w K mg base ["one", "other"] "is_below" (defScope (top 26)) f cdv A outer s H E) (K := fun e s'' => L2.CX P w outer H s E e s'') rfl
  exact (dss_one (ds_ret (dp_cmp (od_lt2 (u2 hr)) ((dp_op od_mul ((dp_ix ((dp_v 0).de) ((dp_int).de)).de) ((dp_ix ((dp_v 1).de) ((dp_int).de)).de)).de) ((dp_op od_mul ((dp_ix ((dp_v 1).de) ((dp_int).de)).de) ((dp_ix ((dp_v 0).de) ((dp_int).de)).de)).de))))
theorem sc_found_best : FnScope ["things", "many", "sort", "goal", "some", "rows", "time", "row", "k", "best", "found", "plan", "value"] ["things", "many", "sort", "goal"] (defScope (top 39)) := ⟨rfl, rfl, rfl, by decide +kernel, rfl, by decide +kernel, by decide +kernel⟩
theorem f_found_best (M : Txt K mg G) : FnD P w K mg base G "found_best" 9 4 F_found_best := fnD_of (k := 8) (N := ["things", "many", "sort", "goal", "some", "rows", "time", "row", "k", "best", "found", "plan", "value"]) M.d_found_best sc_found_best rfl rfl <| fun f cdv A outer s H E hr => by
  have sc := sc_found_best
  have bk : ∀ {scope : Scope} {own : List (Str × Nat)}, blkC ["things", "many", "sort", "goal", "some", "rows", "time", "row", "k", "best", "found", "plan", "value"] (defScope (top 39)) scope own = true → BlkOk ["things", "many", "sort", "goal", "some", "rows", "time", "row", "k", "best", "found", "plan", "value"] (defScope (top 39)) scope own := fun h => blkOk_by h
  have tk := takes_of (X := cxOf (L2.CX P w) P w K mg base ["things", "many", "sort", "goal", "some", "rows", "time", "row", "k", "best", "found", "plan", "value"] "found_best" (defScope (top 39)) f cdv A outer s H E) rfl rfl rfl rfl
  have po := passes_of (X := cxOf (L2.CX P w) P w K mg base ["things", "many", "sort", "goal", "some", "rows", "time", "row", "k", "best", "found", "plan", "value"] "found_best" (defScope (top 39)) f cdv A outer s H E) (K := fun e s'' => L2.CX P w outer H s E e s'') rfl
  exact (dss_cons (ds_expr (dp_call (f_check_things M) (hr.mono (by first | decide | omega)) tk (da_cons (dp_v 0) (da_nil))))
    (dss_cons (ds_if (dt_not (dt_val (dp_call (f_is_between M) (hr.mono (by first | decide | omega)) tk (da_cons (dp_v 1) (da_cons (dp_v 0) (da_cons (dp_int) (da_nil))))))) (dss_one (ds_raise M.e_InvalidMany tk rfl)) (dss_nil))
    (dss_cons (ds_expr (dp_call (f_check_sort M) (hr.mono (by first | decide | omega)) tk (da_cons (dp_v 2) (da_nil))))
    (dss_cons (ds_if (dt_w (dw_or (dt_not (dt_val (dp_isi .str (by decide) M.z_isinstance M.z_str (by decide +kernel) ((dp_v 3).de)))) (dw_or1 (dt_cmp (od_notIn (u65 hr)) ((dp_v 3).de) ((dp_tup (da_cons (dp_str [115, 117, 109]) (da_cons (dp_str [119, 111, 114, 115, 116]) (da_cons (dp_str [119, 104, 111, 108, 101]) (da_nil))))).de))))) (dss_one (ds_raise M.e_InvalidGoal tk rfl)) (dss_nil))
    (dss_cons (ds_set (i := 4) (dp_call (f_single_weighings M) (hr.mono (by first | decide | omega)) tk (da_cons (dp_v 0) (da_cons (dp_v 2) (da_nil)))) sc.nd)
    (dss_cons (ds_if (dt_cmp od_gt ((dp_call (f_count_of M) (hr.mono (by first | decide | omega)) tk (da_cons (dp_b1 cd_len (by rfl) M.z_len PySem.boot_len ((dp_v 4).de)) (da_cons (dp_v 1) (da_nil)))).de) ((dp_int).de)) (dss_one (ds_raise M.e_TooMany tk rfl)) (dss_nil))
    (dss_cons (ds_set (i := 5) ((df_lst (da_cons (dp_tup (da_nil)) (da_nil))).dp) sc.nd)
    (dss_cons (ds_for po rfl (di_rng1 M.z_range (dp_v 1)) (dg_name (i := 6) sc.nd) (dss_one (ds_valLc2 (i := 5) (own := [("row", 7), ("k", 8)]) (vs1 := [8]) rfl sc.nd (di_seq (dp_v 5)) (bk (by decide +kernel)) ⟨fun _ _ _ _ _ => dg_name (i := 7) sc.nd, fun _ _ _ _ _ => dts_nil, fun _ _ _ _ _ => di_rng1 M.z_range (dp_b1 cd_len (by rfl) M.z_len PySem.boot_len ((dp_v 4).de)), fun _ _ _ _ _ => dg_name (i := 8) sc.nd, fun _ _ _ _ _ => dts_one (dt_w (dw_or (dt_cmp (od_eq (u64 hr)) ((dp_v 7).de) ((dp_tup (da_nil)).de)) (dw_or1 (dt_cmp (od_le2 (u0 hr)) ((dp_ix ((dp_v 7).de) ((dp_un un_negD ((dp_int).de)).de)).de) ((dp_v 8).de))))), fun _ _ _ _ _ => dp_op od_add ((dp_v 7).de) ((dp_tup (da_cons (dp_v 8) (da_nil))).de)⟩ (by decide) (by decide) (by decide))))
    (dss_cons (ds_asg (dp_tup (da_cons (dp_non) (da_cons (dp_non) (da_nil)))) (dg_tup rfl (dgs_cons (dg_name (i := 9) sc.nd) (dgs_cons (dg_name (i := 10) sc.nd) (dgs_nil)))))
    (dss_cons (ds_for po rfl (di_seq (dp_v 5)) (dg_name (i := 7) sc.nd) (dss_cons (ds_set (i := 11) (dp_t1 cd_tuple (by rfl) M.z_tuple PyProof.Rows.boot_tuple (((df_lc (own := [("k", 8)]) rfl sc.nd (di_seq (dp_v 7)) (bk (by decide +kernel)) ⟨fun _ _ _ _ _ => dg_name (i := 8) sc.nd, fun _ _ _ _ _ => dts_nil, fun _ _ _ _ _ => dp_ix ((dp_v 4).de) ((dp_v 8).de)⟩ (by decide)).dp).de)) sc.nd)
    (dss_cons (ds_set (i := 12) (dp_call (f_value_of M) (hr.mono (by first | decide | omega)) tk (da_cons (dp_v 11) (da_cons (dp_v 3) (da_nil)))) sc.nd)
    (dss_one (ds_if (dt_w (dw_and (dt_cmp od_isNot ((dp_v 12).de) ((dp_non).de)) (dw_and1 (dt_w (dw_or (dt_cmp od_is ((dp_v 9).de) ((dp_non).de)) (dw_or1 (dt_val (dp_call (f_is_below M) (hr.mono (by first | decide | omega)) tk (da_cons (dp_v 12) (da_cons (dp_v 9) (da_nil))))))))))) (dss_one (ds_par2 rfl sc.nd (da_cons (dp_v 12) (da_cons (dp_v 11) (da_nil))))) (dss_nil))))))
    (dss_one (ds_ret (dp_tup (da_cons (dp_v 10) (da_cons (dp_v 9) (da_nil))))))))))))))))
theorem sc_best_plan : FnScope ["things", "many", "sort", "goal"] ["things", "many", "sort", "goal"] (defScope (top 40)) := ⟨rfl, rfl, rfl, by decide +kernel, rfl, by decide +kernel, by decide +kernel⟩
theorem f_best_plan (M : Txt K mg G) : FnD P w K mg base G "best_plan" 10 4 F_best_plan := fnD_of (k := 9) (N := ["things", "many", "sort", "goal"]) M.d_best_plan sc_best_plan rfl rfl <| fun f cdv A outer s H E hr => by
  have sc := sc_best_plan
  have bk : ∀ {scope : Scope} {own : List (Str × Nat)}, blkC ["things", "many", "sort", "goal"] (defScope (top 40)) scope own = true → BlkOk ["things", "many", "sort", "goal"] (defScope (top 40)) scope own := fun h => blkOk_by h
  have tk := takes_of (X := cxOf (L2.CX P w) P w K mg base ["things", "many", "sort", "goal"] "best_plan" (defScope (top 40)) f cdv A outer s H E) rfl rfl rfl rfl
  have po := passes_of (X := cxOf (L2.CX P w) P w K mg base ["things", "many", "sort", "goal"] "best_plan" (defScope (top 40)) f cdv A outer s H E) (K := fun e s'' => L2.CX P w outer H s E e s'') rfl
  exact (dss_one (ds_ret (dp_ix ((dp_call (f_found_best M) (hr.mono (by first | decide | omega)) tk (da_cons (dp_v 0) (da_cons (dp_v 1) (da_cons (dp_v 2) (da_cons (dp_v 3) (da_nil)))))).de) ((dp_int).de))))
theorem sc_best_value : FnScope ["things", "many", "sort", "goal"] ["things", "many", "sort", "goal"] (defScope (top 41)) := ⟨rfl, rfl, rfl, by decide +kernel, rfl, by decide +kernel, by decide +kernel⟩
theorem f_best_value (M : Txt K mg G) : FnD P w K mg base G "best_value" 10 4 F_best_value := fnD_of (k := 9) (N := ["things", "many", "sort", "goal"]) M.d_best_value sc_best_value rfl rfl <| fun f cdv A outer s H E hr => by
  have sc := sc_best_value
  have bk : ∀ {scope : Scope} {own : List (Str × Nat)}, blkC ["things", "many", "sort", "goal"] (defScope (top 41)) scope own = true → BlkOk ["things", "many", "sort", "goal"] (defScope (top 41)) scope own := fun h => blkOk_by h
  have tk := takes_of (X := cxOf (L2.CX P w) P w K mg base ["things", "many", "sort", "goal"] "best_value" (defScope (top 41)) f cdv A outer s H E) rfl rfl rfl rfl
  have po := passes_of (X := cxOf (L2.CX P w) P w K mg base ["things", "many", "sort", "goal"] "best_value" (defScope (top 41)) f cdv A outer s H E) (K := fun e s'' => L2.CX P w outer H s E e s'') rfl
  exact (dss_one (ds_ret (dp_ix ((dp_call (f_found_best M) (hr.mono (by first | decide | omega)) tk (da_cons (dp_v 0) (da_cons (dp_v 1) (da_cons (dp_v 2) (da_cons (dp_v 3) (da_nil)))))).de) ((dp_int).de))))
theorem sc__law_ratio : FnScope ["_law_top", "_law_bottom", "_law_one", "_law_two"] ["_law_top", "_law_bottom"] (defScope (top 49)) := ⟨rfl, rfl, rfl, by decide +kernel, rfl, by decide +kernel, by decide +kernel⟩
theorem f__law_ratio (M : Txt K mg G) : FnD P w K mg base G "_law_ratio" 1 2 F__law_ratio := fnD_of (k := 0) (N := ["_law_top", "_law_bottom", "_law_one", "_law_two"]) M.d__law_ratio sc__law_ratio rfl rfl <| fun f cdv A outer s H E hr => by
  have sc := sc__law_ratio
  have bk : ∀ {scope : Scope} {own : List (Str × Nat)}, blkC ["_law_top", "_law_bottom", "_law_one", "_law_two"] (defScope (top 49)) scope own = true → BlkOk ["_law_top", "_law_bottom", "_law_one", "_law_two"] (defScope (top 49)) scope own := fun h => blkOk_by h
  have tk := takes_of (X := cxOf (L2.CX P w) P w K mg base ["_law_top", "_law_bottom", "_law_one", "_law_two"] "_law_ratio" (defScope (top 49)) f cdv A outer s H E) rfl rfl rfl rfl
  have po := passes_of (X := cxOf (L2.CX P w) P w K mg base ["_law_top", "_law_bottom", "_law_one", "_law_two"] "_law_ratio" (defScope (top 49)) f cdv A outer s H E) (K := fun e s'' => L2.CX P w outer H s E e s'') rfl
  exact (dss_cons (ds_par2 rfl sc.nd (da_cons (dp_b1 cd_abs (by rfl) M.z_abs (by decide +kernel) ((dp_v 0).de)) (da_cons (dp_b1 cd_abs (by rfl) M.z_abs (by decide +kernel) ((dp_v 1).de)) (da_nil))))
    (dss_cons (ds_while po (dt_cmp (od_ne (u64 hr)) ((dp_v 3).de) ((dp_int).de)) (dss_one (ds_par2 rfl sc.nd (da_cons (dp_v 3) (da_cons (dp_op od_mod ((dp_v 2).de) ((dp_v 3).de)) (da_nil))))))
    (dss_cons (ds_set (i := 2) (dp_if (dt_cmp od_gt ((dp_v 1).de) ((dp_int).de)) (dp_v 2) (dp_op od_sub ((dp_int).de) ((dp_v 2).de))) sc.nd)
    (dss_one (ds_ret (dp_tup (da_cons (dp_op od_div ((dp_v 0).de) ((dp_v 2).de)) (da_cons (dp_op od_div ((dp_v 1).de) ((dp_v 2).de)) (da_nil)))))))))
theorem sc__law_call : FnScope ["_law_how", "_law_arguments"] ["_law_how", "_law_arguments"] (defScope (top 50)) := ⟨rfl, rfl, rfl, by decide +kernel, rfl, by decide +kernel, by decide +kernel⟩
theorem f__law_call (M : Txt K mg G) : FnD P w K mg base G "_law_call" 11 2 F__law_call_k51 := fnD_of (k := 10) (N := ["_law_how", "_law_arguments"]) M.d__law_call sc__law_call rfl rfl <| fun f cdv A outer s H E hr => by
  have sc := sc__law_call
  have bk : ∀ {scope : Scope} {own : List (Str × Nat)}, blkC ["_law_how", "_law_arguments"] (defScope (top 50)) scope own = true → BlkOk ["_law_how", "_law_arguments"] (defScope (top 50)) scope own := fun h => blkOk_by h
  have tk := takes_of (X := cxOf (L2.CX P w) P w K mg base ["_law_how", "_law_arguments"] "_law_call" (defScope (top 50)) f cdv A outer s H E) rfl rfl rfl rfl
  have po := passes_of (X := cxOf (L2.CX P w) P w K mg base ["_law_how", "_law_arguments"] "_law_call" (defScope (top 50)) f cdv A outer s H E) (K := fun e s'' => L2.CX P w outer H s E e s'') rfl
  exact (dss_one (ds_ret (dp_callT 10 (hr.mono (by first | decide | omega)) tk (dp_ix ((dp_tup (da_cons (dp_gv M.g_best_value) (da_cons (dp_gv M.g_best_plan) (da_nil)))).de) ((dp_v 0).de)) (tb_cons (f_best_value M) M.g_best_value (tb_cons (f_best_plan M) M.g_best_plan (tb_nil))) (da_cons (dp_ix ((dp_v 1).de) ((dp_int).de)) (da_cons (dp_ix ((dp_v 1).de) ((dp_int).de)) (da_cons (dp_ix ((dp_v 1).de) ((dp_int).de)) (da_cons (dp_ix ((dp_v 1).de) ((dp_int).de)) (da_nil))))))))
theorem sc__law_name : FnScope ["_law_caught", "_law_found"] ["_law_caught"] (defScope (top 47)) := ⟨rfl, rfl, rfl, by decide +kernel, rfl, by decide +kernel, by decide +kernel⟩
theorem f__law_name (M : Txt K mg G) : FnD P w K mg base G "_law_name" 1 1 F__law_name := fnD_of (k := 0) (N := ["_law_caught", "_law_found"]) M.d__law_name sc__law_name rfl rfl <| fun f cdv A outer s H E hr => by
  have sc := sc__law_name
  have bk : ∀ {scope : Scope} {own : List (Str × Nat)}, blkC ["_law_caught", "_law_found"] (defScope (top 47)) scope own = true → BlkOk ["_law_caught", "_law_found"] (defScope (top 47)) scope own := fun h => blkOk_by h
  have tk := takes_of (X := cxOf (L2.CX P w) P w K mg base ["_law_caught", "_law_found"] "_law_name" (defScope (top 47)) f cdv A outer s H E) rfl rfl rfl rfl
  have po := passes_of (X := cxOf (L2.CX P w) P w K mg base ["_law_caught", "_law_found"] "_law_name" (defScope (top 47)) f cdv A outer s H E) (K := fun e s'' => L2.CX P w outer H s E e s'') rfl
  exact (dss_cons (ds_if (dt_not (dt_val (dp_isV M.x_all M.z_isinstance M.z_ValueError (dp_v 0)))) (dss_one (ds_ret (dp_un un_negD ((dp_int).de)))) (dss_nil))
    (dss_cons (ds_set (i := 1) ((df_lst (da_cons (dp_isO M.x_all M.z_isinstance M.e_InvalidPlan (dp_v 0)) (da_cons (dp_isO M.x_all M.z_isinstance M.e_InvalidList (dp_v 0)) (da_nil)))).dp) sc.nd)
    (dss_cons (ds_set (i := 1) (dp_op od_add ((dp_v 1).de) (((df_lst (da_cons (dp_isO M.x_all M.z_isinstance M.e_InvalidSum (dp_v 0)) (da_cons (dp_isO M.x_all M.z_isinstance M.e_InvalidResults (dp_v 0)) (da_nil)))).dp).de)) sc.nd)
    (dss_cons (ds_set (i := 1) (dp_op od_add ((dp_v 1).de) (((df_lst (da_cons (dp_isO M.x_all M.z_isinstance M.e_InvalidThings (dp_v 0)) (da_cons (dp_isO M.x_all M.z_isinstance M.e_InvalidSort (dp_v 0)) (da_nil)))).dp).de)) sc.nd)
    (dss_cons (ds_set (i := 1) (dp_op od_add ((dp_v 1).de) (((df_lst (da_cons (dp_isO M.x_all M.z_isinstance M.e_InvalidGoal (dp_v 0)) (da_cons (dp_isO M.x_all M.z_isinstance M.e_InvalidNumber (dp_v 0)) (da_nil)))).dp).de)) sc.nd)
    (dss_cons (ds_set (i := 1) (dp_op od_add ((dp_v 1).de) (((df_lst (da_cons (dp_isO M.x_all M.z_isinstance M.e_InvalidNames (dp_v 0)) (da_cons (dp_isO M.x_all M.z_isinstance M.e_InvalidWeighing (dp_v 0)) (da_nil)))).dp).de)) sc.nd)
    (dss_cons (ds_set (i := 1) (dp_op od_add ((dp_v 1).de) (((df_lst (da_cons (dp_isO M.x_all M.z_isinstance M.e_InvalidMany (dp_v 0)) (da_cons (dp_isO M.x_all M.z_isinstance M.e_InvalidShares (dp_v 0)) (da_nil)))).dp).de)) sc.nd)
    (dss_cons (ds_set (i := 1) (dp_op od_add ((dp_v 1).de) (((df_lst (da_cons (dp_isO M.x_all M.z_isinstance M.e_InvalidText (dp_v 0)) (da_cons (dp_isO M.x_all M.z_isinstance M.e_Unequal (dp_v 0)) (da_nil)))).dp).de)) sc.nd)
    (dss_cons (ds_set (i := 1) (dp_op od_add ((dp_v 1).de) (((df_lst (da_cons (dp_isO M.x_all M.z_isinstance M.e_NotTold (dp_v 0)) (da_cons (dp_isO M.x_all M.z_isinstance M.e_NotSettled (dp_v 0)) (da_nil)))).dp).de)) sc.nd)
    (dss_cons (ds_set (i := 1) (dp_op od_add ((dp_v 1).de) (((df_lst (da_cons (dp_isO M.x_all M.z_isinstance M.e_NotBorne (dp_v 0)) (da_cons (dp_isO M.x_all M.z_isinstance M.e_LastOne (dp_v 0)) (da_nil)))).dp).de)) sc.nd)
    (dss_cons (ds_set (i := 1) (dp_op od_add ((dp_v 1).de) (((df_lst (da_cons (dp_isO M.x_all M.z_isinstance M.e_TooMany (dp_v 0)) (da_cons (dp_isO M.x_all M.z_isinstance M.e_NothingToUndo (dp_v 0)) (da_nil)))).dp).de)) sc.nd)
    (dss_one (ds_ret (dp_if (dt_cmp (od_eq (u64 hr)) ((dp_countB ((dp_v 1).de) (dp_bl)).de) ((dp_int).de)) (dp_index (u65 hr) ((dp_v 1).de) (dp_bl)) (dp_un un_negD ((dp_int).de))))))))))))))))
theorem sc__law_outcome : FnScope ["_law_how", "_law_arguments", "_law_caught", "_law_result", "error"] ["_law_how", "_law_arguments"] (defScope (top 46)) := ⟨rfl, rfl, rfl, by decide +kernel, rfl, by decide +kernel, by decide +kernel⟩
theorem f__law_outcome (M : Txt K mg G) : FnD P w K mg base G "_law_outcome" 12 2 F__law_outcome_k51 := fnD_of (k := 11) (N := ["_law_how", "_law_arguments", "_law_caught", "_law_result", "error"]) M.d__law_outcome sc__law_outcome rfl rfl <| fun f cdv A outer s H E hr => by
  have sc := sc__law_outcome
  have bk : ∀ {scope : Scope} {own : List (Str × Nat)}, blkC ["_law_how", "_law_arguments", "_law_caught", "_law_result", "error"] (defScope (top 46)) scope own = true → BlkOk ["_law_how", "_law_arguments", "_law_caught", "_law_result", "error"] (defScope (top 46)) scope own := fun h => blkOk_by h
  have tk := takes_of (X := cxOf (L2.CX P w) P w K mg base ["_law_how", "_law_arguments", "_law_caught", "_law_result", "error"] "_law_outcome" (defScope (top 46)) f cdv A outer s H E) rfl rfl rfl rfl
  have po := passes_of (X := cxOf (L2.CX P w) P w K mg base ["_law_how", "_law_arguments", "_law_caught", "_law_result", "error"] "_law_outcome" (defScope (top 46)) f cdv A outer s H E) (K := fun e s'' => L2.CX P w outer H s E e s'') rfl
  exact (dss_cons (ds_set (i := 2) (dp_non) sc.nd)
    (dss_cons (ds_set (i := 3) (dp_non) sc.nd)
    (dss_cons (ds_tryW M.x_all sc.nd (fun _ _ _ tk => dss_one (ds_set (i := 3) (dp_call (f__law_call M) (hr.mono (by first | decide | omega)) tk (da_cons (dp_v 0) (da_cons (dp_v 1) (da_nil)))) sc.nd)))
    (dss_cons (ds_if (dt_cmp od_is ((dp_v 2).de) ((dp_non).de)) (dss_one (ds_ret (dp_tup (da_cons (dp_str [114, 101, 116, 117, 114, 110, 101, 100]) (da_cons (dp_v 3) (da_nil)))))) (dss_nil))
    (dss_one (ds_ret (dp_tup (da_cons (dp_str [114, 97, 105, 115, 101, 100]) (da_cons (dp_call (f__law_name M) (hr.mono (by first | decide | omega)) tk (da_cons (dp_v 2) (da_nil))) (da_nil))))))))))
theorem sc__law_raises : FnScope ["_law_name_here", "_law_some"] ["_law_name_here"] (defScope (top 48)) := ⟨rfl, rfl, rfl, by decide +kernel, rfl, by decide +kernel, by decide +kernel⟩
theorem f__law_raises (M : Txt K mg G) : FnD P w K mg base G "_law_raises" 1 1 F__law_raises := fnD_of (k := 0) (N := ["_law_name_here", "_law_some"]) M.d__law_raises sc__law_raises rfl rfl <| fun f cdv A outer s H E hr => by
  have sc := sc__law_raises
  have bk : ∀ {scope : Scope} {own : List (Str × Nat)}, blkC ["_law_name_here", "_law_some"] (defScope (top 48)) scope own = true → BlkOk ["_law_name_here", "_law_some"] (defScope (top 48)) scope own := fun h => blkOk_by h
  have tk := takes_of (X := cxOf (L2.CX P w) P w K mg base ["_law_name_here", "_law_some"] "_law_raises" (defScope (top 48)) f cdv A outer s H E) rfl rfl rfl rfl
  have po := passes_of (X := cxOf (L2.CX P w) P w K mg base ["_law_name_here", "_law_some"] "_law_raises" (defScope (top 48)) f cdv A outer s H E) (K := fun e s'' => L2.CX P w outer H s E e s'') rfl
  exact (dss_cons (ds_set (i := 1) ((df_lst (da_cons (dp_str [112, 108, 97, 110]) (da_cons (dp_str [108, 105, 115, 116]) (da_cons (dp_str [115, 117, 109]) (da_cons (dp_str [114, 101, 115, 117, 108, 116, 115]) (da_cons (dp_str [116, 104, 105, 110, 103, 115]) (da_cons (dp_str [115, 111, 114, 116]) (da_cons (dp_str [103, 111, 97, 108]) (da_cons (dp_str [110, 117, 109, 98, 101, 114]) (da_cons (dp_str [110, 97, 109, 101, 115]) (da_nil))))))))))).dp) sc.nd)
    (dss_cons (ds_set (i := 1) (dp_op od_add ((dp_v 1).de) (((df_lst (da_cons (dp_str [119, 101, 105, 103, 104, 105, 110, 103]) (da_cons (dp_str [99, 111, 117, 110, 116]) (da_cons (dp_str [115, 104, 97, 114, 101, 115]) (da_cons (dp_str [116, 101, 120, 116]) (da_cons (dp_str [117, 110, 101, 113, 117, 97, 108]) (da_cons (dp_str [110, 111, 116, 95, 116, 111, 108, 100]) (da_cons (dp_str [110, 111, 116, 95, 115, 101, 116, 116, 108, 101, 100]) (da_nil))))))))).dp).de)) sc.nd)
    (dss_cons (ds_set (i := 1) (dp_op od_add ((dp_v 1).de) (((df_lst (da_cons (dp_str [110, 111, 116, 95, 98, 111, 114, 110, 101]) (da_cons (dp_str [108, 97, 115, 116, 95, 111, 110, 101]) (da_cons (dp_str [109, 97, 110, 121]) (da_cons (dp_str [117, 110, 100, 111]) (da_nil)))))).dp).de)) sc.nd)
    (dss_one (ds_ret (dp_tup (da_cons (dp_str [114, 97, 105, 115, 101, 100]) (da_cons (dp_index (u65 hr) ((dp_v 1).de) (dp_v 0)) (da_nil)))))))))
theorem sc_law : FnScope ["_law_script", "_law_town_here", "_law_many", "_law_sort", "_law_goal", "_law_even", "_law_calls", "_law_bad", "_law_one"] ["_law_script"] (defScope (top 51)) := ⟨rfl, rfl, rfl, by decide +kernel, rfl, by decide +kernel, by decide +kernel⟩
theorem f_law (M : Txt K mg G) {f : Addr} {fd : FuncData} (Fd : L2.Fun K "law" "law" (top 51) f fd) : FnOk P w K mg base (L2.CX P w) 13 f fd ["_law_script"] (spD K G 1 F_law_k51) := fnOk_of (k := 12) (N := ["_law_script", "_law_town_here", "_law_many", "_law_sort", "_law_goal", "_law_even", "_law_calls", "_law_bad", "_law_one"]) Fd sc_law rfl rfl <| fun f cdv A outer s H E hr => by
  have sc := sc_law
  have bk : ∀ {scope : Scope} {own : List (Str × Nat)}, blkC ["_law_script", "_law_town_here", "_law_many", "_law_sort", "_law_goal", "_law_even", "_law_calls", "_law_bad", "_law_one"] (defScope (top 51)) scope own = true → BlkOk ["_law_script", "_law_town_here", "_law_many", "_law_sort", "_law_goal", "_law_even", "_law_calls", "_law_bad", "_law_one"] (defScope (top 51)) scope own := fun h => blkOk_by h
  have tk := takes_of (X := cxOf (L2.CX P w) P w K mg base ["_law_script", "_law_town_here", "_law_many", "_law_sort", "_law_goal", "_law_even", "_law_calls", "_law_bad", "_law_one"] "law" (defScope (top 51)) f cdv A outer s H E) rfl rfl rfl rfl
  have po := passes_of (X := cxOf (L2.CX P w) P w K mg base ["_law_script", "_law_town_here", "_law_many", "_law_sort", "_law_goal", "_law_even", "_law_calls", "_law_bad", "_law_one"] "law" (defScope (top 51)) f cdv A outer s H E) (K := fun e s'' => L2.CX P w outer H s E e s'') rfl
  exact (dss_cons (ds_set (i := 1) (dp_call (f__law_town M) (hr.mono (by first | decide | omega)) tk (da_cons (dp_v 0) (da_nil))) sc.nd)
    (dss_cons (ds_set (i := 2) (dp_op od_add ((dp_int).de) ((dp_call (f__law_draw M) (hr.mono (by first | decide | omega)) tk (da_cons (dp_v 0) (da_cons (dp_v 1) (da_cons (dp_int) (da_nil))))).de)) sc.nd)
    (dss_cons (ds_set (i := 3) (dp_call (f__law_pick M) (hr.mono (by first | decide | omega)) tk (da_cons (dp_v 0) (da_cons (dp_v 1) (da_cons ((df_lst (da_cons (dp_str [98, 111, 116, 104]) (da_cons (dp_str [111, 110, 101]) (da_nil)))).dp) (da_nil))))) sc.nd)
    (dss_cons (ds_for po rfl (di_seq (dp_tup (da_cons (dp_str [115, 117, 109]) (da_cons (dp_str [119, 111, 114, 115, 116]) (da_cons (dp_str [119, 104, 111, 108, 101]) (da_nil)))))) (dg_name (i := 4) sc.nd) (dss_one (ds_if (dt_w (dw_or (dt_cmp (od_ne (u64 hr)) ((dp_call (f_best_value M) (hr.mono (by first | decide | omega)) tk (da_cons (dp_int) (da_cons (dp_v 2) (da_cons (dp_v 3) (da_cons (dp_v 4) (da_nil)))))).de) ((dp_tup (da_cons (dp_int) (da_cons (dp_v 2) (da_nil)))).de)) (dw_or1 (dt_cmp (od_ne (u64 hr)) ((dp_call (f_best_plan M) (hr.mono (by first | decide | omega)) tk (da_cons (dp_int) (da_cons (dp_v 2) (da_cons (dp_v 3) (da_cons (dp_v 4) (da_nil)))))).de) ((dp_op od_mul ((dp_tup (da_cons (dp_tup (da_cons (dp_int) (da_nil))) (da_nil))).de) ((dp_v 2).de)).de))))) (dss_one (ds_ret (dp_bl))) (dss_nil))))
    (dss_cons (ds_set (i := 5) (dp_op od_mul ((dp_int).de) ((dp_op od_add ((dp_int).de) ((dp_call (f__law_draw M) (hr.mono (by first | decide | omega)) tk (da_cons (dp_v 0) (da_cons (dp_v 1) (da_cons (dp_int) (da_nil))))).de)).de)) sc.nd)
    (dss_cons (ds_if (dt_w (dw_or (dt_cmp (od_ne (u64 hr)) ((dp_call (f_best_value M) (hr.mono (by first | decide | omega)) tk (da_cons (dp_int) (da_cons (dp_v 5) (da_cons (dp_str [98, 111, 116, 104]) (da_cons (dp_str [115, 117, 109]) (da_nil)))))).de) ((dp_call (f__law_ratio M) (hr.mono (by first | decide | omega)) tk (da_cons (dp_int) (da_cons (dp_v 5) (da_nil)))).de)) (dw_or1 (dt_cmp (od_ne (u64 hr)) ((dp_call (f_best_value M) (hr.mono (by first | decide | omega)) tk (da_cons (dp_int) (da_cons (dp_v 5) (da_cons (dp_str [98, 111, 116, 104]) (da_cons (dp_str [119, 111, 114, 115, 116]) (da_nil)))))).de) ((dp_tup (da_cons (dp_int) (da_cons (dp_v 5) (da_nil)))).de))))) (dss_one (ds_ret (dp_bl))) (dss_nil))
    (dss_cons (ds_if (dt_cmp (od_ne (u64 hr)) ((dp_call (f_best_plan M) (hr.mono (by first | decide | omega)) tk (da_cons (dp_int) (da_cons (dp_v 5) (da_cons (dp_str [98, 111, 116, 104]) (da_cons (dp_str [119, 111, 114, 115, 116]) (da_nil)))))).de) ((dp_op od_add ((dp_op od_mul ((dp_tup (da_cons (dp_tup (da_cons (dp_int) (da_cons (dp_un un_negD ((dp_int).de)) (da_nil)))) (da_nil))).de) ((dp_op od_div ((dp_v 5).de) ((dp_int).de)).de)).de) ((dp_op od_mul ((dp_tup (da_cons (dp_tup (da_cons (dp_int) (da_cons (dp_int) (da_nil)))) (da_nil))).de) ((dp_op od_div ((dp_v 5).de) ((dp_int).de)).de)).de)).de)) (dss_one (ds_ret (dp_bl))) (dss_nil))
    (dss_cons (ds_if (dt_w (dw_or (dt_cmp (od_ne (u64 hr)) ((dp_call (f_best_value M) (hr.mono (by first | decide | omega)) tk (da_cons (dp_int) (da_cons (dp_v 5) (da_cons (dp_str [98, 111, 116, 104]) (da_cons (dp_str [119, 104, 111, 108, 101]) (da_nil)))))).de) ((dp_tup (da_cons (dp_int) (da_cons (dp_op od_mul ((dp_v 5).de) ((dp_v 5).de)) (da_nil)))).de)) (dw_or1 (dt_cmp (od_ne (u64 hr)) ((dp_call (f_best_value M) (hr.mono (by first | decide | omega)) tk (da_cons (dp_int) (da_cons (dp_int) (da_cons (dp_str [111, 110, 101]) (da_cons (dp_str [115, 117, 109]) (da_nil)))))).de) ((dp_tup (da_cons (dp_int) (da_cons (dp_int) (da_nil)))).de))))) (dss_one (ds_ret (dp_bl))) (dss_nil))
    (dss_cons (ds_if (dt_cmp (od_ne (u64 hr)) ((dp_call (f_best_value M) (hr.mono (by first | decide | omega)) tk (da_cons (dp_int) (da_cons (dp_int) (da_cons (dp_str [111, 110, 101]) (da_cons (dp_str [119, 104, 111, 108, 101]) (da_nil)))))).de) ((dp_tup (da_cons (dp_int) (da_cons (dp_int) (da_nil)))).de)) (dss_one (ds_ret (dp_bl))) (dss_nil))
    (dss_cons (ds_if (dt_cmp (od_ne (u64 hr)) ((dp_call (f_best_plan M) (hr.mono (by first | decide | omega)) tk (da_cons (dp_int) (da_cons (dp_int) (da_cons (dp_str [111, 110, 101]) (da_cons (dp_str [119, 104, 111, 108, 101]) (da_nil)))))).de) ((dp_tup (da_cons (dp_tup (da_cons (dp_int) (da_cons (dp_int) (da_cons (dp_int) (da_nil))))) (da_cons (dp_tup (da_cons (dp_int) (da_cons (dp_int) (da_cons (dp_int) (da_nil))))) (da_cons (dp_tup (da_cons (dp_int) (da_cons (dp_int) (da_cons (dp_int) (da_nil))))) (da_nil))))).de)) (dss_one (ds_ret (dp_bl))) (dss_nil))
    (dss_cons (ds_if (dt_w (dw_or (dt_cmp (od_ne (u64 hr)) ((dp_call (f_best_value M) (hr.mono (by first | decide | omega)) tk (da_cons (dp_int) (da_cons (dp_int) (da_cons (dp_str [98, 111, 116, 104]) (da_cons (dp_str [119, 104, 111, 108, 101]) (da_nil)))))).de) ((dp_tup (da_cons (dp_int) (da_cons (dp_int) (da_nil)))).de)) (dw_or1 (dt_cmp (od_ne (u64 hr)) ((dp_call (f_best_value M) (hr.mono (by first | decide | omega)) tk (da_cons (dp_int) (da_cons (dp_int) (da_cons (dp_str [111, 110, 101]) (da_cons (dp_str [115, 117, 109]) (da_nil)))))).de) ((dp_tup (da_cons (dp_int) (da_cons (dp_int) (da_nil)))).de))))) (dss_one (ds_ret (dp_bl))) (dss_nil))
    (dss_cons (ds_ownLc (i := 6) (own := [("_law_bad", 7)]) rfl sc.nd (di_seq (dp_tup (da_cons (dp_non) (da_cons (dp_int) (da_cons (dp_int) (da_cons (dp_bl) (da_cons (dp_str [49]) (da_nil)))))))) (bk (by decide +kernel)) ⟨fun _ _ _ _ _ => dg_name (i := 7) sc.nd, fun _ _ _ _ _ => dts_nil, fun _ _ _ _ _ => dp_tup (da_cons (dp_int) (da_cons (dp_tup (da_cons (dp_v 7) (da_cons (dp_int) (da_cons (dp_str [98, 111, 116, 104]) (da_cons (dp_str [115, 117, 109]) (da_nil)))))) (da_cons (dp_str [116, 104, 105, 110, 103, 115]) (da_nil))))⟩ (by decide))
    (dss_cons (ds_own (i := 6) (df_add (de_o 6) (((df_lc (own := [("_law_bad", 7)]) rfl sc.nd (di_seq (dp_tup (da_cons (dp_non) (da_cons (dp_int) (da_cons (dp_int) (da_cons (dp_bl) (da_cons (dp_str [50]) (da_nil)))))))) (bk (by decide +kernel)) ⟨fun _ _ _ _ _ => dg_name (i := 7) sc.nd, fun _ _ _ _ _ => dts_nil, fun _ _ _ _ _ => dp_tup (da_cons (dp_int) (da_cons (dp_tup (da_cons (dp_int) (da_cons (dp_v 7) (da_cons (dp_str [98, 111, 116, 104]) (da_cons (dp_str [115, 117, 109]) (da_nil)))))) (da_cons (dp_str [99, 111, 117, 110, 116]) (da_nil))))⟩ (by decide)).dp).de)) sc.nd)
    (dss_cons (ds_own (i := 6) (df_add (de_o 6) (((df_lc (own := [("_law_bad", 7)]) rfl sc.nd (di_seq (dp_tup (da_cons (dp_non) (da_cons (dp_str []) (da_cons (dp_str [116, 119, 111]) (da_cons (dp_int) (da_cons ((df_lst (da_cons (dp_str [98, 111, 116, 104]) (da_nil))).dp) (da_nil)))))))) (bk (by decide +kernel)) ⟨fun _ _ _ _ _ => dg_name (i := 7) sc.nd, fun _ _ _ _ _ => dts_nil, fun _ _ _ _ _ => dp_tup (da_cons (dp_int) (da_cons (dp_tup (da_cons (dp_int) (da_cons (dp_int) (da_cons (dp_v 7) (da_cons (dp_str [115, 117, 109]) (da_nil)))))) (da_cons (dp_str [115, 111, 114, 116]) (da_nil))))⟩ (by decide)).dp).de)) sc.nd)
    (dss_cons (ds_own (i := 6) (df_add (de_o 6) (((df_lc (own := [("_law_bad", 7)]) rfl sc.nd (di_seq (dp_tup (da_cons (dp_non) (da_cons (dp_str []) (da_cons (dp_str [108, 101, 97, 115, 116]) (da_cons (dp_int) (da_cons (dp_tup (da_cons (dp_str [115, 117, 109]) (da_nil))) (da_nil)))))))) (bk (by decide +kernel)) ⟨fun _ _ _ _ _ => dg_name (i := 7) sc.nd, fun _ _ _ _ _ => dts_nil, fun _ _ _ _ _ => dp_tup (da_cons (dp_int) (da_cons (dp_tup (da_cons (dp_int) (da_cons (dp_int) (da_cons (dp_str [111, 110, 101]) (da_cons (dp_v 7) (da_nil)))))) (da_cons (dp_str [103, 111, 97, 108]) (da_nil))))⟩ (by decide)).dp).de)) sc.nd)
    (dss_cons (ds_own (i := 6) (df_add (de_o 6) (((df_lst (da_cons (dp_tup (da_cons (dp_int) (da_cons (dp_tup (da_cons (dp_int) (da_cons (dp_int) (da_cons (dp_str [98, 111, 116, 104]) (da_cons (dp_str [115, 117, 109]) (da_nil)))))) (da_cons (dp_str [109, 97, 110, 121]) (da_nil))))) (da_cons (dp_tup (da_cons (dp_int) (da_cons (dp_tup (da_cons (dp_int) (da_cons (dp_int) (da_cons (dp_str [98, 111, 116, 104]) (da_cons (dp_str [119, 104, 111, 108, 101]) (da_nil)))))) (da_cons (dp_str [109, 97, 110, 121]) (da_nil))))) (da_nil)))).dp).de)) sc.nd)
    (dss_cons (ds_expr (dp_append (de_o 6) (dp_tup (da_cons (dp_int) (da_cons (dp_tup (da_cons (dp_int) (da_cons (dp_int) (da_cons (dp_str [111, 110, 101]) (da_cons (dp_str [115, 117, 109]) (da_nil)))))) (da_cons (dp_str [109, 97, 110, 121]) (da_nil)))))))
    (dss_cons (ds_own (i := 6) (df_add (de_o 6) (((df_lst (da_cons (dp_tup (da_cons (dp_int) (da_cons (dp_tup (da_cons (dp_int) (da_cons (dp_int) (da_cons (dp_str [98, 111, 116, 104]) (da_cons (dp_str [115, 117, 109]) (da_nil)))))) (da_cons (dp_str [109, 97, 110, 121]) (da_nil))))) (da_cons (dp_tup (da_cons (dp_int) (da_cons (dp_tup (da_cons (dp_int) (da_cons (dp_int) (da_cons (dp_str [120]) (da_cons (dp_str [121]) (da_nil)))))) (da_cons (dp_str [116, 104, 105, 110, 103, 115]) (da_nil))))) (da_nil)))).dp).de)) sc.nd)
    (dss_cons (ds_expr (dp_append (de_o 6) (dp_tup (da_cons (dp_int) (da_cons (dp_tup (da_cons (dp_int) (da_cons (dp_int) (da_cons (dp_str [120]) (da_cons (dp_str [121]) (da_nil)))))) (da_cons (dp_str [99, 111, 117, 110, 116]) (da_nil)))))))
    (dss_one (ds_ret (dp_cmp (od_eq (u64 hr)) (((df_lc (own := [("_law_one", 8)]) rfl sc.nd (di_seq (dp_g 6)) (bk (by decide +kernel)) ⟨fun _ _ _ _ _ => dg_name (i := 8) sc.nd, fun _ _ _ _ _ => dts_one (dt_cmp (od_ne (u64 hr)) ((dp_call (f__law_outcome M) (hr.mono (by first | decide | omega)) takes0 (da_cons (dp_ix ((dp_v 8).de) ((dp_int).de)) (da_cons (dp_ix ((dp_v 8).de) ((dp_int).de)) (da_nil)))).de) ((dp_call (f__law_raises M) (hr.mono (by first | decide | omega)) takes0 (da_cons (dp_ix ((dp_v 8).de) ((dp_int).de)) (da_nil))).de)), fun _ _ _ _ _ => dp_v 8⟩ (by decide)).dp).de) (((df_lst (da_nil)).dp).de)))))))))))))))))))))))
end
end DL.k51

/-! M0: what denotations compute, by rewriting. -/
set_option linter.all false
namespace DL
section
variable {α β : Type} {e : Env} {S : Store} {f g h : EM} {fb gb : BM} {fa : AM} {a : α}
@[simp] theorem bind_ok {k : α → Env → Store → Out β} : (Out.ok a e S).bind k = k a e S := rfl
@[simp] theorem bind_stuck {k : α → Env → Store → Out β} : (Out.stuck : Out α).bind k = .stuck := rfl
@[simp] theorem bind_exc {c : Nat} {k : α → Env → Store → Out β} : (Out.exc c e S : Out α).bind k = .exc c e S := rfl
@[simp] theorem dC_ap {d : D} : dC d e S = .ok d e S := rfl
@[simp] theorem dV_ap {i : Nat} : dV i e S = match e[i]? with | some (.val d) => .ok d e S | _ => .stuck := rfl
@[simp] theorem dO_ap {i : Nat} : dO i e S = match e[i]? with | some (.own _) => .ok (.loc i) e S | _ => .stuck := rfl
@[simp] theorem dF_ap {i : Nat} : dF i e S = match e[i]? with | some (.own xs) => .ok (.lst xs) (e.set i (.val (.lst xs))) S | _ => .stuck := rfl
@[simp] theorem dB1_ap {k : D → Option D} : dB1 f k e S = (f e S).bind fun d e S => match k (look e S d) with | some r => .ok r e S | none => .stuck := rfl
@[simp] theorem dB2_ap {k : D → D → Option D} : dB2 f g k e S = (f e S).bind fun a e S => (g e S).bind fun b e S => match k (look e S a) (look e S b) with | some r => .ok r e S | none => .stuck := rfl
@[simp] theorem dTest_ap : dTest f e S = (f e S).bind fun d e S => match d with | .bl b => .ok b e S | _ => .stuck := rfl
@[simp] theorem bTrue_ap : bTrue e S = .ok true e S := rfl
@[simp] theorem bAnd_ap : bAnd fb gb e S = (fb e S).bind fun b e S => if b then gb e S else .ok false e S := rfl
@[simp] theorem bOr_ap : bOr fb gb e S = (fb e S).bind fun b e S => if b then .ok true e S else gb e S := rfl
@[simp] theorem bNot_ap : bNot fb e S = (fb e S).bind fun b e S => .ok (!b) e S := rfl
@[simp] theorem dOfB_ap : dOfB fb e S = (fb e S).bind fun b e S => .ok (.bl b) e S := rfl
@[simp] theorem dIf_ap : dIf fb f g e S = (fb e S).bind fun b e S => if b then f e S else g e S := rfl
@[simp] theorem aNil_ap : aNil e S = .ok [] e S := rfl
@[simp] theorem aCons_ap : aCons f fa e S = (f e S).bind fun d e S => (fa e S).bind fun ds e S => .ok (d :: ds) e S := rfl
@[simp] theorem dTup_ap : dTup fa e S = (fa e S).bind fun ds e S => .ok (.tup ds) e S := rfl
@[simp] theorem dLst_ap : dLst fa e S = (fa e S).bind fun ds e S => .ok (.lst ds) e S := rfl
@[simp] theorem dFz_ap {f : LM} : dFz f e S = (f e S).bind fun xs e S => .ok (.lst xs) e S := rfl
@[simp] theorem dNw_ap {f : LM} : dNw f e S = (f e S).bind fun xs e S => .ok (.ref S.length) e (S ++ [.lst xs]) := rfl
@[simp] theorem dCall_ap {F : Fn} : dCall F fa e S = (fa e S).bind fun ds e S => match F ds S with | .ok d S => .ok d e S | .exc c S => .exc c e S | .stuck => .stuck := rfl
@[simp] theorem dAnd_ap : dAnd f g e S = (f e S).bind fun d e S => match d with | .bl b => if b then g e S else .ok (.bl false) e S | _ => .stuck := rfl
@[simp] theorem dOr_ap : dOr f g e S = (f e S).bind fun d e S => match d with | .bl b => if b then .ok (.bl true) e S else g e S | _ => .stuck := rfl
@[simp] theorem dNot_ap : dNot f e S = (f e S).bind fun d e S => match d with | .bl b => .ok (.bl (!b)) e S | _ => .stuck := rfl
@[simp] theorem dCh_ap {k k' : D → D → Option D} : dCh f g h k k' e S = (f e S).bind fun a e S => (g e S).bind fun b e S => match k (look e S a) (look e S b) with
  | some (.bl true) => (h e S).bind fun c e S => match k' (look e S b) (look e S c) with
    | some r => .ok r e S
    | none => .stuck
  | some (.bl false) => .ok (.bl false) e S
  | _ => .stuck := rfl
@[simp] theorem dB2F_ap {k : D → D → Option (List D)} : dB2F f g k e S = (f e S).bind fun a e S => (g e S).bind fun b e S => match k (look e S a) (look e S b) with | some r => .ok r e S | none => .stuck := rfl
@[simp] theorem dB1F_ap {k : D → Option (List D)} : dB1F f k e S = (f e S).bind fun a e S => match k (look e S a) with | some r => .ok r e S | none => .stuck := rfl
@[simp] theorem oNone_ap : oNone e S = .ok none e S := rfl
@[simp] theorem oSome_ap : oSome f e S = (f e S).bind fun d e S => match d with | .int i => .ok (some i) e S | _ => .stuck := rfl
@[simp] theorem dSl_ap {l u : OM} : dSl f l u e S = (f e S).bind fun a e S => (l e S).bind fun lo e S => (u e S).bind fun hi e S => match opCut (look e S a) lo hi with | some r => .ok r e S | none => .stuck := rfl
@[simp] theorem dApp_ap : dApp f g e S = (f e S).bind fun a e S => match look e S a with | .lst _ => (g e S).bind fun v e S => pushAt v a e S | _ => .stuck := rfl
@[simp] theorem dPop_ap : dPop f e S = (f e S).bind fun a e S => popAt a e S := rfl
/-! statements -/
variable {s u : SM}
@[simp] theorem sNext_ap : sNext e S = .nx e S := rfl
@[simp] theorem sSeq_ap : sSeq s u e S = match s e S with | .nx e S => u e S | o => o := rfl
@[simp] theorem sE_ok {k : α → Env → Store → SOut} : sE (.ok a e S) k = k a e S := rfl
@[simp] theorem sE_exc {c : Nat} {k : α → Env → Store → SOut} : sE (.exc c e S) k = .exc c e S := rfl
@[simp] theorem sE_stuck {k : α → Env → Store → SOut} : sE (.stuck) k = .stuck := rfl
@[simp] theorem sDrop_ap : sDrop f e S = sE (f e S) fun _ e S => .nx e S := rfl
@[simp] theorem sRet_ap : sRet f e S = sE (f e S) fun d _ S => .rt d S := rfl
@[simp] theorem sRetN_ap : sRetN e S = .rt .non S := rfl
@[simp] theorem sIf_ap : sIf fb s u e S = sE (fb e S) fun b e S => if b then s e S else u e S := rfl
@[simp] theorem sRaise_ap {c : Nat} : sRaise c e S = .exc c e S := rfl
@[simp] theorem sAsg_ap {g : GM} : sAsg f g e S = sE (f e S) fun d e S => match g d e S with | .nx e S => .nx e S | _ => .stuck := rfl
@[simp] theorem sOwn_ap {i : Nat} {f : LM} : sOwn i f e S = sE (f e S) fun xs e S => .nx (e.set i (.own xs)) S := rfl
@[simp] theorem gName_ap {i : Nat} {d : D} : gName i d e S = .nx (e.set i (.val d)) S := rfl
@[simp] theorem gAll_nil : gAll [] [] e S = .nx e S := rfl
@[simp] theorem gAll_cons {g : GM} {gs : List GM} {d : D} {ds : List D} : gAll (g :: gs) (d :: ds) e S = match g d e S with | .nx e S => gAll gs ds e S | o => o := rfl
@[simp] theorem gTup_ap {gs : List GM} {ds : List D} : gTup gs (.tup ds) e S = if ds.length = gs.length then gAll gs ds e S else .stuck := rfl
@[simp] theorem sPar2_ap {i j : Nat} : sPar2 i j fa e S = sE (fa e S) fun ds e S => match ds with | [a, b] => .nx ((e.set i (.val a)).set j (.val b)) S | _ => .stuck := rfl
@[simp] theorem sPar3_ap {i j k : Nat} : sPar3 i j k fa e S = sE (fa e S) fun ds e S => match ds with | [a, b, c] => .nx (((e.set i (.val a)).set j (.val b)).set k (.val c)) S | _ => .stuck := rfl
@[simp] theorem sStuck_ap : sStuck e S = .stuck := rfl
@[simp] theorem sFor_ap {it : IM} {g : GM} : sFor it g s e S = sE (it e S) fun r e S => turns r.dyn g s r.items e S := rfl
@[simp] theorem sWhile_ap {fuel : Env → Store → Nat} : sWhile fuel fb s e S = whileN fb s (fuel e S) e S := rfl
@[simp] theorem iSeq_ap : iSeq f e S = (f e S).bind fun d e S => match srcD S d with | some s => .ok s e S | none => .stuck := rfl
@[simp] theorem iRng1_ap : iRng1 f e S = (f e S).bind fun d e S => match d with | .int n => if rangeOk 0 n then .ok ⟨rngL 0 n.toNat, []⟩ e S else .stuck | _ => .stuck := rfl
@[simp] theorem iRng2_ap : iRng2 f g e S = (f e S).bind fun a e S => (g e S).bind fun b e S => match a, b with | .int a, .int b => if rangeOk a b then .ok ⟨rngL a (b - a).toNat, []⟩ e S else .stuck | _, _ => .stuck := rfl
@[simp] theorem iZip_ap : iZip f g e S = (f e S).bind fun a e S => (g e S).bind fun b e S => match srcD S a, srcD S b with | some s, some t => .ok ⟨pairUp s.items t.items, s.dyn ++ t.dyn⟩ e S | _, _ => .stuck := rfl
@[simp] theorem iEnum_ap : iEnum f e S = (f e S).bind fun a e S => match srcD S a with | some s => .ok ⟨numbered 0 s.items, s.dyn⟩ e S | none => .stuck := rfl
@[simp] theorem start_ap {n : Nat} {ds : List D} : start n ds = ds.map .val ++ List.replicate (n - ds.length) .non := rfl
@[simp] theorem fnOf_ap {n : Nat} {ds : List D} : fnOf n s ds S = match s (start n ds) S with | .nx _ S => .ok .non S | .rt d S => .ok d S | .exc c _ S => .exc c S | _ => .stuck := rfl
/-! values -/
@[simp] theorem look_non : look e S .non = .non := rfl
@[simp] theorem look_bl {b} : look e S (.bl b) = .bl b := rfl
@[simp] theorem look_int {b} : look e S (.int b) = .int b := rfl
@[simp] theorem look_str {b} : look e S (.str b) = .str b := rfl
@[simp] theorem look_tup {b} : look e S (.tup b) = .tup b := rfl
@[simp] theorem look_lst {b} : look e S (.lst b) = .lst b := rfl
@[simp] theorem look_scr {b} : look e S (.scr b) = .scr b := rfl
@[simp] theorem look_loc {i} : look e S (.loc i) = match e[i]? with | some (.own xs) => .lst xs | _ => .loc i := rfl
@[simp] theorem look_ref {n} : look e S (.ref n) = match S[n]? with | some (.lst xs) => .lst xs | _ => .ref n := rfl
@[simp] theorem srcD_tup {xs} : srcD S (.tup xs) = some ⟨xs, []⟩ := rfl
@[simp] theorem srcD_lst {xs} : srcD S (.lst xs) = some ⟨xs, []⟩ := rfl
@[simp] theorem srcD_scr {xs} : srcD S (.scr xs) = some ⟨xs, []⟩ := rfl
@[simp] theorem still_nil : still [] S = true := rfl
/-! operators -/
@[simp] theorem opAdd_int {a b : Int} : opAdd (.int a) (.int b) = some (.int (a + b)) := rfl
@[simp] theorem opAdd_tup {a b : List D} : opAdd (.tup a) (.tup b) = if a.length + b.length ≤ 16777216 then some (.tup (a ++ b)) else none := rfl
@[simp] theorem opAdd_lst {a b : List D} : opAdd (.lst a) (.lst b) = if a.length + b.length ≤ 16777216 then some (.lst (a ++ b)) else none := rfl
@[simp] theorem opAdd_str {a b : List Nat} : opAdd (.str a) (.str b) = if a.length + b.length ≤ 16777216 then some (.str (a ++ b)) else none := rfl
@[simp] theorem opSub_int {a b : Int} : opSub (.int a) (.int b) = some (.int (a - b)) := rfl
@[simp] theorem opMul_int {a b : Int} : opMul (.int a) (.int b) = if mulOk a b then some (.int (a * b)) else none := rfl
@[simp] theorem opMul_lst {a : List D} {k : Int} : opMul (.lst a) (.int k) = if repOk a.length k then some (.lst (List.replicate k.toNat a).flatten) else none := rfl
@[simp] theorem opMul_tup {a : List D} {k : Int} : opMul (.tup a) (.int k) = if repOk a.length k then some (.tup (List.replicate k.toNat a).flatten) else none := rfl
@[simp] theorem opDiv_int {a b : Int} : opDiv (.int a) (.int b) = if divOk b then some (.int (a.fdiv b)) else none := rfl
@[simp] theorem opMod_int {a b : Int} : opMod (.int a) (.int b) = if b = 0 then none else some (.int (a.fmod b)) := rfl
@[simp] theorem opPow_int {a b : Int} : opPow (.int a) (.int b) = if decide (0 ≤ b) && decide (b ≤ 1000) && decide (a.natAbs < 18446744073709551616) then some (.int (a ^ b.toNat)) else none := rfl
@[simp] theorem opNeg_int {a : Int} : opNeg (.int a) = some (.int (-a)) := rfl
@[simp] theorem opNot_bl {a : Bool} : opNot (.bl a) = some (.bl (!a)) := rfl
@[simp] theorem opLt2_int {a b : Int} : opLt2 (.int a) (.int b) = some (.bl (decide (a < b))) := rfl
@[simp] theorem opLe2_int {a b : Int} : opLe2 (.int a) (.int b) = some (.bl (decide (a ≤ b))) := rfl
@[simp] theorem opGt_int {a b : Int} : opGt (.int a) (.int b) = some (.bl (decide (b < a))) := rfl
@[simp] theorem opGe_int {a b : Int} : opGe (.int a) (.int b) = some (.bl (decide (b ≤ a))) := rfl
@[simp] theorem opEq_int {a b : Int} : opEq (.int a) (.int b) = some (.bl (a == b)) := rfl
@[simp] theorem opNe_int {a b : Int} : opNe (.int a) (.int b) = some (.bl (!(a == b))) := rfl
@[simp] theorem opLen_tup {a : List D} : opLen (.tup a) = some (.int a.length) := rfl
@[simp] theorem opLen_lst {a : List D} : opLen (.lst a) = some (.int a.length) := rfl
@[simp] theorem opLen_scr {a : List D} : opLen (.scr a) = some (.int a.length) := rfl
@[simp] theorem opLen_str {s : List Nat} : opLen (.str s) = if s.length ≤ 16777216 then some (.int s.length) else none := rfl
@[simp] theorem opAbs_int {a : Int} : opAbs (.int a) = some (.int a.natAbs) := by
  have h : (if a < 0 then -a else a) = (a.natAbs : Int) := by split <;> omega
  show some (D.int (if a < 0 then -a else a)) = _
  rw [h]
@[simp] theorem opInt_int {a : Int} : opInt (.int a) = some (.int a) := rfl
@[simp] theorem opInt_bl {b : Bool} : opInt (.bl b) = some (.int (if b then 1 else 0)) := rfl
@[simp] theorem opTuple_tup {a : List D} : opTuple (.tup a) = some (.tup a) := rfl
@[simp] theorem opTuple_lst {a : List D} : opTuple (.lst a) = some (.tup a) := rfl
@[simp] theorem opList_tup {a : List D} : opList (.tup a) = some (.lst a) := rfl
@[simp] theorem opList_lst {a : List D} : opList (.lst a) = some (.lst a) := rfl
@[simp] theorem opList_scr {a : List D} : opList (.scr a) = some (.lst a) := rfl
@[simp] theorem lsOf_tup {a : List D} : lsOf (.tup a) = some a := rfl
@[simp] theorem lsOf_lst {a : List D} : lsOf (.lst a) = some a := rfl
@[simp] theorem lsOf_scr {a : List D} : lsOf (.scr a) = some a := rfl
@[simp] theorem opIx_tup {a : List D} {i : Int} : opIx (.tup a) (.int i) = DL.atI a i := rfl
@[simp] theorem opIx_lst {a : List D} {i : Int} : opIx (.lst a) (.int i) = DL.atI a i := rfl
@[simp] theorem opIx_scr {a : List D} {i : Int} : opIx (.scr a) (.int i) = DL.atI a i := rfl
@[simp] theorem opCut_tup {a : List D} {l h : Option Int} : opCut (.tup a) l h = some (.tup (cutD a l h)) := rfl
@[simp] theorem opCut_lst {a : List D} {l h : Option Int} : opCut (.lst a) l h = some (.lst (cutD a l h)) := rfl
@[simp] theorem opCut_scr {a : List D} {l h : Option Int} : opCut (.scr a) l h = some (.lst (cutD a l h)) := rfl
@[simp] theorem opIsA_int {c : Ty} {i : Int} : opIsA c (.int i) = some (.bl (isTy c .int)) := rfl
@[simp] theorem opIsA_bl {c : Ty} {i : Bool} : opIsA c (.bl i) = some (.bl (isTy c .bl)) := rfl
@[simp] theorem opIsA_str {c : Ty} {i} : opIsA c (.str i) = some (.bl (isTy c .str)) := rfl
@[simp] theorem opIsA_tup {c : Ty} {i} : opIsA c (.tup i) = some (.bl (isTy c .tup)) := rfl
@[simp] theorem opIsA_lst {c : Ty} {i} : opIsA c (.lst i) = some (.bl (isTy c .lst)) := rfl
@[simp] theorem opIsA_non {c : Ty} : opIsA c .non = some (.bl (isTy c .non)) := rfl
@[simp] theorem isTy_same {c : Ty} : isTy c c = true := by cases c <;> rfl
@[simp] theorem opIs_non : opIs .non .non = some (.bl true) := rfl
@[simp] theorem opIs_int {a} : opIs (.int a) .non = some (.bl false) := rfl
@[simp] theorem opIs_tup {a} : opIs (.tup a) .non = some (.bl false) := rfl
@[simp] theorem opIs_str {a} : opIs (.str a) .non = some (.bl false) := rfl
@[simp] theorem opIs_lst {a} : opIs (.lst a) .non = some (.bl false) := rfl
@[simp] theorem opIsNot_non : opIsNot .non .non = some (.bl false) := rfl
@[simp] theorem opIsNot_int {a} : opIsNot (.int a) .non = some (.bl true) := rfl
@[simp] theorem opIsNot_tup {a} : opIsNot (.tup a) .non = some (.bl true) := rfl
@[simp] theorem opIsNot_str {a} : opIsNot (.str a) .non = some (.bl true) := rfl
@[simp] theorem opIsNot_lst {a} : opIsNot (.lst a) .non = some (.bl true) := rfl
end
/-! ## lists, loops -/
theorem atI_nat {α : Type} {xs : List α} {i : Nat} : DL.atI xs (i : Int) = xs[i]? := by
  unfold DL.atI; rw [if_pos (by omega)]; simp
theorem allInts_map : ∀ xs : List Int, allInts (xs.map .int) = some xs
  | [] => rfl
  | x :: xs => by simp [allInts, allInts_map xs]
@[simp] theorem opSum_ints {xs : List Int} : opSum (.lst (xs.map .int)) = some (.int xs.sum) := by simp [opSum, allInts_map]
@[simp] theorem opAny_ints {xs : List Int} : opAny (.lst (xs.map .int)) = some (.bl (xs.any (· != 0))) := by simp [opAny, allInts_map]
@[simp] theorem opAny_intsT {xs : List Int} : opAny (.tup (xs.map .int)) = some (.bl (xs.any (· != 0))) := by simp [opAny, allInts_map]
theorem allBls_map : ∀ xs : List Bool, allBls (xs.map .bl) = some xs
  | [] => rfl
  | x :: xs => by simp [allBls, allBls_map xs]
@[simp] theorem opAll_bls {xs : List Bool} : opAll (.lst (xs.map .bl)) = some (.bl (xs.all id)) := by simp [opAll, allBls_map]
theorem allBls_fmap {α : Type} (p : α → Bool) : ∀ xs : List α, allBls (xs.map fun x => .bl (p x)) = some (xs.map p)
  | [] => rfl
  | x :: xs => by simp [allBls, allBls_fmap p xs]
theorem allInts_fmap {α : Type} (p : α → Int) : ∀ xs : List α, allInts (xs.map fun x => .int (p x)) = some (xs.map p)
  | [] => rfl
  | x :: xs => by simp [allInts, allInts_fmap p xs]
@[simp] theorem opAll_fmap {α : Type} {p : α → Bool} {xs : List α} : opAll (.lst (xs.map fun x => .bl (p x))) = some (.bl (xs.all p)) := by simp [opAll, allBls_fmap, Function.comp_def]
@[simp] theorem opSum_fmap {α : Type} {p : α → Int} {xs : List α} : opSum (.lst (xs.map fun x => .int (p x))) = some (.int (xs.map p).sum) := by simp [opSum, allInts_fmap]
@[simp] theorem opAny_fmap {α : Type} {p : α → Int} {xs : List α} : opAny (.lst (xs.map fun x => .int (p x))) = some (.bl (xs.any fun x => p x != 0)) := by simp [opAny, allInts_fmap, Function.comp_def]
theorem rngL_map (a : Int) (n : Nat) : rngL a n = (List.range n).map fun i => D.int (a + (i : Nat)) := rfl
theorem rngL_0 (n : Nat) : rngL 0 n = (List.range n).map fun i : Nat => D.int i := by simp [rngL]
theorem numbered_map {α : Type} (enc : α → D) : ∀ (xs : List α) (n : Nat), numbered n (xs.map enc) = (xs.zipIdx n).map fun p => D.tup [.int (p.2 : Nat), enc p.1]
  | [], _ => rfl
  | x :: xs, n => by simp [numbered, numbered_map enc xs (n + 1)]
theorem pairUp_map {α β : Type} (f : α → D) (g : β → D) : ∀ (xs : List α) (ys : List β), pairUp (xs.map f) (ys.map g) = (xs.zip ys).map fun p => D.tup [f p.1, g p.2]
  | [], _ => by simp [pairUp]
  | _ :: _, [] => by simp [pairUp]
  | x :: xs, y :: ys => by simp [pairUp, pairUp_map f g xs ys]
theorem lcT_ok {α : Type} {vs : List Nat} {g : GM} {t : BM} {f : EM} {e : Env} {S : Store} {enc : α → D} {p : α → Bool} {r : α → D} {e1 : α → Env} : ∀ (xs : List α) (acc : List D),
    (∀ a ∈ xs, g (enc a) e S = .nx (e1 a) S) → (∀ a ∈ xs, t (e1 a) S = .ok (p a) (e1 a) S) → (∀ a ∈ xs, p a = true → f (e1 a) S = .ok (r a) (e1 a) S) → (∀ a ∈ xs, wipes vs (e1 a) = e) →
    lcT [] vs g t f (xs.map enc) acc e S = .ok (acc ++ (xs.filter p).map r) e S
  | [], acc, _, _, _, _ => by simp [lcT]
  | a :: xs, acc, hg, ht, hf, hw => by
    have ih := fun acc => lcT_ok (vs := vs) (t := t) (p := p) (r := r) xs acc (fun a m => hg a (List.mem_cons_of_mem _ m)) (fun a m => ht a (List.mem_cons_of_mem _ m)) (fun a m => hf a (List.mem_cons_of_mem _ m)) (fun a m => hw a (List.mem_cons_of_mem _ m))
    have m0 : a ∈ a :: xs := List.mem_cons_self
    rw [List.map_cons, lcT]
    simp only [still_nil, if_true, hg a m0, ht a m0]
    cases hp : p a with
    | true => simp only [if_true, hf a m0 hp, hw a m0, ih]; simp [hp]
    | false => simp only [Bool.false_eq_true, if_false, hw a m0, ih]; simp [hp]
theorem lLc_ok {α : Type} {vs : List Nat} {it : IM} {g : GM} {t : BM} {f : EM} {e : Env} {S : Store} (xs : List α) (enc : α → D) (p : α → Bool) (r : α → D) (e1 : α → Env) (hit : it e S = .ok ⟨xs.map enc, []⟩ e S) (hl : xs.length ≤ 16777216)
    (hg : ∀ a ∈ xs, g (enc a) (wipes vs e) S = .nx (e1 a) S) (ht : ∀ a ∈ xs, t (e1 a) S = .ok (p a) (e1 a) S) (hf : ∀ a ∈ xs, p a = true → f (e1 a) S = .ok (r a) (e1 a) S) (hw : ∀ a ∈ xs, wipes vs (e1 a) = wipes vs e) (hu : unwipe e vs (wipes vs e) = e) :
    lLc vs it g t f e S = .ok ((xs.filter p).map r) e S := by
  unfold lLc
  rw [hit]
  simp only [bind_ok, List.length_map, if_pos hl]
  rw [lcT_ok xs [] hg ht hf hw]
  simp [hu]
/-- without tests -/
theorem lLc_map {α : Type} {vs : List Nat} {it : IM} {g : GM} {f : EM} {e : Env} {S : Store} (xs : List α) (enc : α → D) (r : α → D) (e1 : α → Env) (hit : it e S = .ok ⟨xs.map enc, []⟩ e S) (hl : xs.length ≤ 16777216)
    (hg : ∀ a ∈ xs, g (enc a) (wipes vs e) S = .nx (e1 a) S) (hf : ∀ a ∈ xs, f (e1 a) S = .ok (r a) (e1 a) S) (hw : ∀ a ∈ xs, wipes vs (e1 a) = wipes vs e) (hu : unwipe e vs (wipes vs e) = e) :
    lLc vs it g bTrue f e S = .ok (xs.map r) e S := by
  have h := lLc_ok (t := bTrue) (f := f) xs enc (fun _ => true) r e1 hit hl hg (fun _ _ => rfl) (fun a m _ => hf a m) hw hu
  rw [List.filter_eq_self.mpr (fun _ _ => rfl)] at h
  exact h
theorem turns_ok {α β : Type} {g : GM} {body : SM} {S : Store} (enc : α → D) (env : β → Env) (step : β → α → β) : ∀ (xs : List α) (b : β),
    (∀ b a, a ∈ xs → ∃ e1, g (enc a) (env b) S = .nx e1 S ∧ body e1 S = .nx (env (step b a)) S) → turns [] g body (xs.map enc) (env b) S = .nx (env (xs.foldl step b)) S
  | [], b, _ => by simp [turns]
  | a :: xs, b, h => by
    obtain ⟨e1, h1, h2⟩ := h b a List.mem_cons_self
    rw [List.map_cons, turns]
    simp only [still_nil, if_true, h1, h2]
    rw [turns_ok enc env step xs (step b a) fun b a m => h b a (List.mem_cons_of_mem _ m)]
    rfl
end DL

/-! N0: values told by opaque names; loops and comprehensions once more. -/
set_option linter.all false
set_option maxRecDepth 100000
namespace DL
section
variable {α β : Type} {e : Env} {S : Store} {f g : EM} {h : D → Option D}
@[simp] theorem dB2P_ap {k : D → D → Option D} : dB2P f g k e S = (f e S).bind fun a e S => (g e S).bind fun b e S => match k a b with | some r => .ok r e S | none => .stuck := rfl
@[simp] theorem dG_ap {i : Nat} : dG i e S = match e[i]? with | some (.own xs) => .ok (.lst xs) (e.set i (.val (.lst xs))) S | some (.val d) => .ok d e S | _ => .stuck := rfl
@[simp] theorem opMin2_int {a b : Int} : opMin2 (.int a) (.int b) = some (.int (min a b)) := by
  show some (D.int (if b < a then b else a)) = _
  congr 2; omega
@[simp] theorem opMax2_int {a b : Int} : opMax2 (.int a) (.int b) = some (.int (max a b)) := by
  show some (D.int (if b > a then b else a)) = _
  congr 2; omega
/-- a tuple, a list, of things told by f -/
@[irreducible] def vT (f : α → D) (xs : List α) : D := .tup (xs.map f)
@[irreducible] def vL (f : α → D) (xs : List α) : D := .lst (xs.map f)
theorem vT_def (f : α → D) (xs : List α) : vT f xs = .tup (xs.map f) := by unfold vT; rfl
theorem vL_def (f : α → D) (xs : List α) : vL f xs = .lst (xs.map f) := by unfold vL; rfl
abbrev vI : Int → D := D.int
abbrev vTI : List Int → D := vT D.int
abbrev vLI : List Int → D := vL D.int
/-- an int as it is drawn: a number from 0 on -/
abbrev vN (n : Nat) : D := .int (n : Int)
@[simp] theorem look_vT {f : α → D} {xs : List α} : look e S (vT f xs) = vT f xs := by rw [vT_def]; rfl
@[simp] theorem look_vL {f : α → D} {xs : List α} : look e S (vL f xs) = vL f xs := by rw [vL_def]; rfl
@[simp] theorem srcD_vT {f : α → D} {xs : List α} : srcD S (vT f xs) = some ⟨xs.map f, []⟩ := by rw [vT_def]; rfl
@[simp] theorem srcD_vL {f : α → D} {xs : List α} : srcD S (vL f xs) = some ⟨xs.map f, []⟩ := by rw [vL_def]; rfl
@[simp] theorem opLen_vT {f : α → D} {xs : List α} : opLen (vT f xs) = some (.int (xs.length : Nat)) := by rw [vT_def]; simp [opLen]
@[simp] theorem opLen_vL {f : α → D} {xs : List α} : opLen (vL f xs) = some (.int (xs.length : Nat)) := by rw [vL_def]; simp [opLen]
theorem atI_mapN {f : α → D} {xs : List α} {i : Int} : DL.atI (xs.map f) i = (DL.atI xs i).map f := by
  unfold DL.atI
  rw [List.length_map]
  split
  · exact List.getElem?_map ..
  · split
    · exact List.getElem?_map ..
    · rfl
@[simp] theorem opIx_vT {f : α → D} {xs : List α} {i : Int} : opIx (vT f xs) (.int i) = (DL.atI xs i).map f := by rw [vT_def]; exact atI_mapN
@[simp] theorem opIx_vL {f : α → D} {xs : List α} {i : Int} : opIx (vL f xs) (.int i) = (DL.atI xs i).map f := by rw [vL_def]; exact atI_mapN
@[simp] theorem opAdd_vT {f : α → D} {xs ys : List α} : opAdd (vT f xs) (vT f ys) = if xs.length + ys.length ≤ 16777216 then some (vT f (xs ++ ys)) else none := by simp [vT_def, opAdd]
@[simp] theorem opAdd_vL {f : α → D} {xs ys : List α} : opAdd (vL f xs) (vL f ys) = if xs.length + ys.length ≤ 16777216 then some (vL f (xs ++ ys)) else none := by simp [vL_def, opAdd]
theorem opAdd_vT1 {f : α → D} {xs : List α} {y : α} (hl : xs.length ≤ 16000000) : opAdd (vT f xs) (.tup [f y]) = some (vT f (xs ++ [y])) := by
  rw [show D.tup [f y] = vT f [y] by rw [vT_def]; rfl, opAdd_vT, if_pos (by simp; omega)]
theorem opAdd_vL1 {f : α → D} {xs : List α} {y : α} (hl : xs.length ≤ 16000000) : opAdd (vL f xs) (.lst [f y]) = some (vL f (xs ++ [y])) := by
  rw [show D.lst [f y] = vL f [y] by rw [vL_def]; rfl, opAdd_vL, if_pos (by simp; omega)]
@[simp] theorem opTuple_vT {f : α → D} {xs : List α} : opTuple (vT f xs) = some (vT f xs) := by simp [vT_def]
@[simp] theorem opTuple_vL {f : α → D} {xs : List α} : opTuple (vL f xs) = some (vT f xs) := by simp [vT_def, vL_def]
@[simp] theorem opList_vT {f : α → D} {xs : List α} : opList (vT f xs) = some (vL f xs) := by simp [vT_def, vL_def]
@[simp] theorem opList_vL {f : α → D} {xs : List α} : opList (vL f xs) = some (vL f xs) := by simp [vL_def]
@[simp] theorem lsOf_vT {f : α → D} {xs : List α} : lsOf (vT f xs) = some (xs.map f) := by simp [vT_def]
@[simp] theorem lsOf_vL {f : α → D} {xs : List α} : lsOf (vL f xs) = some (xs.map f) := by simp [vL_def]
theorem cutD_mapN {f : α → β} (xs : List α) (l h : Option Int) : cutD (xs.map f) l h = (cutD xs l h).map f := by
  unfold cutD; rw [List.map_take, List.map_drop, List.length_map]
@[simp] theorem opCut_vT {f : α → D} {xs : List α} {l h : Option Int} : opCut (vT f xs) l h = some (vT f (cutD xs l h)) := by simp [vT_def, cutD_mapN]
@[simp] theorem opCut_vL {f : α → D} {xs : List α} {l h : Option Int} : opCut (vL f xs) l h = some (vL f (cutD xs l h)) := by simp [vL_def, cutD_mapN]
@[simp] theorem opSum_vL {xs : List Int} : opSum (vL D.int xs) = some (.int xs.sum) := by simp [vL_def]
@[simp] theorem opAny_vL {xs : List Int} : opAny (vL D.int xs) = some (.bl (xs.any (· != 0))) := by simp [vL_def]
@[simp] theorem opAny_vT {xs : List Int} : opAny (vT D.int xs) = some (.bl (xs.any (· != 0))) := by simp [vT_def]
@[simp] theorem opAll_vL {xs : List Bool} : opAll (vL D.bl xs) = some (.bl (xs.all id)) := by simp [vL_def]
@[simp] theorem opIsA_vT {c : Ty} {f : α → D} {xs : List α} : opIsA c (vT f xs) = some (.bl (isTy c .tup)) := by simp [vT_def]
@[simp] theorem opIsA_vL {c : Ty} {f : α → D} {xs : List α} : opIsA c (vL f xs) = some (.bl (isTy c .lst)) := by simp [vL_def]
@[simp] theorem opIs_vT {f : α → D} {xs : List α} : opIs (vT f xs) .non = some (.bl false) := by simp [vT_def]
@[simp] theorem opIsNot_vT {f : α → D} {xs : List α} : opIsNot (vT f xs) .non = some (.bl true) := by simp [vT_def]
@[simp] theorem opIs_vL {f : α → D} {xs : List α} : opIs (vL f xs) .non = some (.bl false) := by simp [vL_def]
@[simp] theorem opIsNot_vL {f : α → D} {xs : List α} : opIsNot (vL f xs) .non = some (.bl true) := by simp [vL_def]
theorem lst_map (f : α → D) (xs : List α) : D.lst (xs.map f) = vL f xs := (vL_def f xs).symm
theorem tup_map (f : α → D) (xs : List α) : D.tup (xs.map f) = vT f xs := (vT_def f xs).symm
theorem vT_map (f : β → D) (k : α → β) (xs : List α) : vT (fun x => f (k x)) xs = vT f (xs.map k) := by simp [vT_def, Function.comp_def]
theorem vL_map (f : β → D) (k : α → β) (xs : List α) : vL (fun x => f (k x)) xs = vL f (xs.map k) := by simp [vL_def, Function.comp_def]
theorem lst_nil (f : α → D) : D.lst [] = vL f [] := by rw [vL_def]; rfl
theorem tup_nil (f : α → D) : D.tup [] = vT f [] := by rw [vT_def]; rfl
theorem lst_one (f : α → D) (a : α) : D.lst [f a] = vL f [a] := by rw [vL_def]; rfl
theorem tup_one (f : α → D) (a : α) : D.tup [f a] = vT f [a] := by rw [vT_def]; rfl
/-! == -/
/-- plain data, at most n deep, told apart by == -/
class DEq {α : Type} (f : α → D) (n : outParam Nat) : Prop where
  ok : ∀ (m : Nat) (a : α), n ≤ m → okd m (f a) = true
  eq : ∀ a b, eqv (f a) (f b) = true ↔ a = b
instance : DEq D.int 0 := ⟨fun m a _ => by cases m <;> rfl, fun a b => by show (a == b) = true ↔ _; simp⟩
instance : DEq D.bl 0 := ⟨fun m a _ => by cases m <;> rfl, fun a b => by show (a == b) = true ↔ _; simp⟩
instance : DEq vN 0 := ⟨fun m a _ => by cases m <;> rfl, fun a b => by show ((a : Int) == (b : Int)) = true ↔ _; rw [beq_iff_eq]; omega⟩
theorem okds_map {f : α → D} {n : Nat} [i : DEq f n] (m : Nat) (h : n ≤ m) : ∀ xs : List α, okds m (xs.map f) = true
  | [] => by cases m <;> rfl
  | x :: xs => by
    rw [List.map_cons]
    show (okd m (f x) && okds m (xs.map f)) = true
    rw [i.ok m x h, okds_map m h xs]; rfl
theorem eqvs_map {f : α → D} {n : Nat} [i : DEq f n] : ∀ xs ys : List α, eqvs (xs.map f) (ys.map f) = true ↔ xs = ys
  | [], [] => by simp [eqvs]
  | [], _ :: _ => by simp [eqvs]
  | _ :: _, [] => by simp [eqvs]
  | x :: xs, y :: ys => by
    show (eqv (f x) (f y) && eqvs (xs.map f) (ys.map f)) = true ↔ _
    rw [Bool.and_eq_true, i.eq, eqvs_map xs ys]; simp
instance {f : α → D} {n : Nat} [i : DEq f n] : DEq (vT f) (n + 1) := ⟨fun m a h => by
    cases m with
    | zero => omega
    | succ m => rw [vT_def]; exact okds_map m (by omega) a, fun a b => by rw [vT_def, vT_def]; exact eqvs_map a b⟩
instance {f : α → D} {n : Nat} [i : DEq f n] : DEq (vL f) (n + 1) := ⟨fun m a h => by
    cases m with
    | zero => omega
    | succ m => rw [vL_def]; exact okds_map m (by omega) a, fun a b => by rw [vL_def, vL_def]; exact eqvs_map a b⟩
theorem eq_enc [DecidableEq α] (f : α → D) {n : Nat} [i : DEq f n] (a b : α) (h : n ≤ 9 := by decide) : opEq (f a) (f b) = some (.bl (decide (a = b))) := by
  unfold opEq
  rw [i.ok 9 a h, i.ok 9 b h]
  have : eqv (f a) (f b) = decide (a = b) := by rw [Bool.eq_iff_iff, decide_eq_true_eq]; exact i.eq a b
  rw [this]; rfl
theorem ne_enc [DecidableEq α] (f : α → D) {n : Nat} [i : DEq f n] (a b : α) (h : n ≤ 9 := by decide) : opNe (f a) (f b) = some (.bl (!decide (a = b))) := by
  unfold opNe
  rw [i.ok 9 a h, i.ok 9 b h]
  have : eqv (f a) (f b) = decide (a = b) := by rw [Bool.eq_iff_iff, decide_eq_true_eq]; exact i.eq a b
  rw [this]; rfl
@[simp] theorem opEq_vT [DecidableEq α] {f : α → D} {n : Nat} [i : DEq f n] {a b : List α} (h : n ≤ 8 := by decide) : opEq (vT f a) (vT f b) = some (.bl (decide (a = b))) := eq_enc (vT f) a b (by omega)
@[simp] theorem opNe_vT [DecidableEq α] {f : α → D} {n : Nat} [i : DEq f n] {a b : List α} (h : n ≤ 8 := by decide) : opNe (vT f a) (vT f b) = some (.bl (!decide (a = b))) := ne_enc (vT f) a b (by omega)
@[simp] theorem opEq_vL [DecidableEq α] {f : α → D} {n : Nat} [i : DEq f n] {a b : List α} (h : n ≤ 8 := by decide) : opEq (vL f a) (vL f b) = some (.bl (decide (a = b))) := eq_enc (vL f) a b (by omega)
@[simp] theorem opNe_vL [DecidableEq α] {f : α → D} {n : Nat} [i : DEq f n] {a b : List α} (h : n ≤ 8 := by decide) : opNe (vL f a) (vL f b) = some (.bl (!decide (a = b))) := ne_enc (vL f) a b (by omega)
@[simp] theorem opEq_vTn [DecidableEq α] {f : α → D} {n : Nat} [i : DEq f n] {a : List α} (h : n ≤ 8 := by decide) : opEq (vT f a) (.tup []) = some (.bl (decide (a = []))) := by rw [tup_nil f]; exact eq_enc (vT f) a [] (by omega)
@[simp] theorem opNe_vTn [DecidableEq α] {f : α → D} {n : Nat} [i : DEq f n] {a : List α} (h : n ≤ 8 := by decide) : opNe (vT f a) (.tup []) = some (.bl (!decide (a = []))) := by rw [tup_nil f]; exact ne_enc (vT f) a [] (by omega)
@[simp] theorem opEq_vLn [DecidableEq α] {f : α → D} {n : Nat} [i : DEq f n] {a : List α} (h : n ≤ 8 := by decide) : opEq (vL f a) (.lst []) = some (.bl (decide (a = []))) := by rw [lst_nil f]; exact eq_enc (vL f) a [] (by omega)
@[simp] theorem opNe_vLn [DecidableEq α] {f : α → D} {n : Nat} [i : DEq f n] {a : List α} (h : n ≤ 8 := by decide) : opNe (vL f a) (.lst []) = some (.bl (!decide (a = []))) := by rw [lst_nil f]; exact ne_enc (vL f) a [] (by omega)
theorem anyEq_map [DecidableEq α] {f : α → D} {n : Nat} [i : DEq f n] (a : α) : ∀ xs : List α, anyEq (f a) (xs.map f) = decide (a ∈ xs)
  | [] => by simp [anyEq]
  | x :: xs => by
    show (eqv (f x) (f a) || anyEq (f a) (xs.map f)) = _
    rw [anyEq_map a xs]
    have : eqv (f x) (f a) = decide (a = x) := by rw [Bool.eq_iff_iff, decide_eq_true_eq, i.eq]; exact eq_comm
    rw [this]; simp
theorem in_vT [DecidableEq α] (f : α → D) {n : Nat} [i : DEq f n] (a : α) (xs : List α) (h : n ≤ 9 := by decide) : opIn (f a) (vT f xs) = some (.bl (decide (a ∈ xs))) := by
  rw [vT_def]
  show (if okd 9 (f a) && okds 9 (xs.map f) then some (D.bl (anyEq (f a) (xs.map f))) else none) = _
  rw [i.ok 9 a h, okds_map 9 h, anyEq_map]; rfl
theorem in_vL [DecidableEq α] (f : α → D) {n : Nat} [i : DEq f n] (a : α) (xs : List α) (h : n ≤ 9 := by decide) : opIn (f a) (vL f xs) = some (.bl (decide (a ∈ xs))) := by
  rw [vL_def]
  show (if okd 9 (f a) && okds 9 (xs.map f) then some (D.bl (anyEq (f a) (xs.map f))) else none) = _
  rw [i.ok 9 a h, okds_map 9 h, anyEq_map]; rfl
theorem notIn_vT [DecidableEq α] (f : α → D) {n : Nat} [i : DEq f n] (a : α) (xs : List α) (h : n ≤ 9 := by decide) : opNotIn (f a) (vT f xs) = some (.bl (!decide (a ∈ xs))) := by
  rw [vT_def]
  show (if okd 9 (f a) && okds 9 (xs.map f) then some (D.bl (!anyEq (f a) (xs.map f))) else none) = _
  rw [i.ok 9 a h, okds_map 9 h, anyEq_map]; rfl
theorem notIn_vL [DecidableEq α] (f : α → D) {n : Nat} [i : DEq f n] (a : α) (xs : List α) (h : n ≤ 9 := by decide) : opNotIn (f a) (vL f xs) = some (.bl (!decide (a ∈ xs))) := by
  rw [vL_def]
  show (if okd 9 (f a) && okds 9 (xs.map f) then some (D.bl (!anyEq (f a) (xs.map f))) else none) = _
  rw [i.ok 9 a h, okds_map 9 h, anyEq_map]; rfl
@[simp] theorem opIn_vTi {a : Int} {xs : List Int} : opIn (.int a) (vT D.int xs) = some (.bl (decide (a ∈ xs))) := in_vT D.int a xs
@[simp] theorem opIn_vLi {a : Int} {xs : List Int} : opIn (.int a) (vL D.int xs) = some (.bl (decide (a ∈ xs))) := in_vL D.int a xs
@[simp] theorem opNotIn_vTi {a : Int} {xs : List Int} : opNotIn (.int a) (vT D.int xs) = some (.bl (!decide (a ∈ xs))) := notIn_vT D.int a xs
@[simp] theorem opNotIn_vLi {a : Int} {xs : List Int} : opNotIn (.int a) (vL D.int xs) = some (.bl (!decide (a ∈ xs))) := notIn_vL D.int a xs
/-! fractions -/
@[irreducible] def vQ (q : Rat) : D := .tup [.int q.num, .int (q.den : Int)]
theorem vQ_def (q : Rat) : vQ q = .tup [.int q.num, .int (q.den : Int)] := by unfold vQ; rfl
@[simp] theorem look_vQ {q : Rat} : look e S (vQ q) = vQ q := by rw [vQ_def]; rfl
@[simp] theorem opIx_vQ0 {q : Rat} : opIx (vQ q) (.int 0) = some (.int q.num) := by rw [vQ_def]; rfl
@[simp] theorem opIx_vQ1 {q : Rat} : opIx (vQ q) (.int 1) = some (.int (q.den : Int)) := by rw [vQ_def]; rfl
@[simp] theorem gTup_vQ {q : Rat} {gs : List GM} : gTup gs (vQ q) e S = if 2 = gs.length then gAll gs [.int q.num, .int (q.den : Int)] e S else .stuck := by rw [vQ_def]; rfl
instance : DEq vQ 1 := ⟨fun m a h => by
    cases m with
    | zero => omega
    | succ m => rw [vQ_def]; cases m <;> rfl, fun a b => by
    rw [vQ_def, vQ_def]
    show ((a.num == b.num) && (((a.den : Int) == (b.den : Int)) && true)) = true ↔ _
    simp only [Bool.and_true, Bool.and_eq_true, beq_iff_eq]
    exact ⟨fun ⟨h1, h2⟩ => Rat.ext h1 (by omega), fun h => by rw [h]; exact ⟨rfl, rfl⟩⟩⟩
@[simp] theorem opEq_vQ {a b : Rat} : opEq (vQ a) (vQ b) = some (.bl (decide (a = b))) := eq_enc vQ a b
@[simp] theorem opNe_vQ {a b : Rat} : opNe (vQ a) (vQ b) = some (.bl (!decide (a = b))) := ne_enc vQ a b
@[simp] theorem opIs_vQ {q : Rat} : opIs (vQ q) .non = some (.bl false) := by simp [vQ_def]
@[simp] theorem opIsNot_vQ {q : Rat} : opIsNot (vQ q) .non = some (.bl true) := by simp [vQ_def]
theorem pair_int (z : Int) : D.tup [.int z, .int 1] = vQ (z : Rat) := by rw [vQ_def]; simp
theorem pair_0 : D.tup [.int 0, .int 1] = vQ 0 := by rw [vQ_def]; rfl
theorem pair_1 : D.tup [.int 1, .int 1] = vQ 1 := by rw [vQ_def]; rfl
theorem neg_pair (q : Rat) : D.tup [.int (0 - q.num), .int (q.den : Int)] = vQ (-q) := by rw [vQ_def]; simp
theorem neg_pair' (q : Rat) : D.tup [.int (-q.num), .int (q.den : Int)] = vQ (-q) := by rw [vQ_def]; simp
end
end DL

/-! N1: loops and comprehensions. -/
set_option linter.all false
set_option maxRecDepth 100000
namespace DL
/-- what stands in a slot behind a block that had it for its own -/
def nrm : Sl → Sl
  | .val d => .val d
  | _ => .non
@[simp] theorem nrm_non : nrm .non = .non := rfl
@[simp] theorem nrm_val {d : D} : nrm (.val d) = .val d := rfl
@[simp] theorem nrm_nrm {z : Sl} : nrm (nrm z) = nrm z := by cases z <;> rfl
def nrmO : Option Sl → Sl
  | some z => nrm z
  | none => .non
@[simp] theorem nrmO_some {z : Sl} : nrmO (some z) = nrm z := rfl
@[simp] theorem unwipe_nil {e0 e : Env} : unwipe e0 [] e = e := rfl
@[simp] theorem unwipe_cons {e0 e : Env} {v : Nat} {vs : List Nat} : unwipe e0 (v :: vs) e = unwipe e0 vs (e.set v (nrmO e0[v]?)) := by
  show unwipe e0 vs _ = _
  congr 1
  cases h : e0[v]? with
  | none => rfl
  | some z => cases z <;> rfl
@[simp] theorem wipes_nil {e : Env} : wipes [] e = e := rfl
@[simp] theorem wipes_cons {e : Env} {v : Nat} {vs : List Nat} : wipes (v :: vs) e = (wipes vs e).set v .non := rfl
section
variable {α β : Type} {vs vs1 : List Nat} {it it1 : IM} {g g1 : GM} {t t1 : BM} {f : EM} {e e' : Env} {S : Store}
theorem lcT_okN {enc : α → D} {p : α → Bool} {r : α → D} {e1 : α → Env} : ∀ (xs : List α) (acc : List D),
    (∀ a ∈ xs, g (enc a) e S = .nx (e1 a) S) → (∀ a ∈ xs, t (e1 a) S = .ok (p a) (e1 a) S) → (∀ a ∈ xs, p a = true → f (e1 a) S = .ok (r a) (e1 a) S) → (∀ a ∈ xs, wipes vs (e1 a) = e) →
    lcT [] vs g t f (xs.map enc) acc e S = .ok (acc ++ (xs.filter p).map r) e S := lcT_ok
/-- [f for .. in it if t] -/
theorem lcF (xs : List α) (enc : α → D) (p : α → Bool) (r : α → D) (e1 : α → Env) (hit : it e S = .ok ⟨xs.map enc, []⟩ e S) (hl : xs.length ≤ 16777216)
    (hg : ∀ a ∈ xs, g (enc a) (wipes vs e) S = .nx (e1 a) S) (ht : ∀ a ∈ xs, t (e1 a) S = .ok (p a) (e1 a) S) (hf : ∀ a ∈ xs, p a = true → f (e1 a) S = .ok (r a) (e1 a) S) (hw : ∀ a ∈ xs, wipes vs (e1 a) = wipes vs e) (hu : unwipe e vs (wipes vs e) = e' := by simp) :
    lLc vs it g t f e S = .ok ((xs.filter p).map r) e' S := by
  unfold lLc
  rw [hit]
  simp only [bind_ok, List.length_map, if_pos hl]
  rw [lcT_ok xs [] hg ht hf hw, ← hu]
  rfl
/-- .. without a test -/
theorem lcM (xs : List α) (enc : α → D) (r : α → D) (e1 : α → Env) (hit : it e S = .ok ⟨xs.map enc, []⟩ e S) (hl : xs.length ≤ 16777216)
    (hg : ∀ a ∈ xs, g (enc a) (wipes vs e) S = .nx (e1 a) S) (hf : ∀ a ∈ xs, f (e1 a) S = .ok (r a) (e1 a) S) (hw : ∀ a ∈ xs, wipes vs (e1 a) = wipes vs e) (hu : unwipe e vs (wipes vs e) = e' := by simp) :
    lLc vs it g bTrue f e S = .ok (xs.map r) e' S := by
  have h := lcF (t := bTrue) (f := f) xs enc (fun _ => true) r e1 hit hl hg (fun _ _ => rfl) (fun a m _ => hf a m) hw hu
  rw [List.filter_eq_self.mpr (fun _ _ => rfl)] at h
  exact h
/-- .. whose test may give away lists: P holds of the slots at each turn -/
theorem lcT_P {enc : α → D} {p : α → Bool} {r : α → D} (P : Env → Prop) : ∀ (xs : List α) (acc : List D) (e : Env), P e →
    (∀ a ∈ xs, ∀ e, P e → ∃ e1 e2, g (enc a) e S = .nx e1 S ∧ t e1 S = .ok (p a) e2 S ∧ (p a = true → ∃ e3, f e2 S = .ok (r a) e3 S ∧ P (wipes vs e3)) ∧ (p a = false → P (wipes vs e2))) →
    ∃ e', lcT [] vs g t f (xs.map enc) acc e S = .ok (acc ++ (xs.filter p).map r) e' S ∧ P e'
  | [], acc, e, h, _ => ⟨e, by simp [lcT], h⟩
  | a :: xs, acc, e, h, k => by
    obtain ⟨e1, e2, h1, h2, h3, h4⟩ := k a List.mem_cons_self e h
    rw [List.map_cons, lcT]
    cases hp : p a with
    | true =>
      obtain ⟨e3, h5, h6⟩ := h3 hp
      obtain ⟨e', h7, h8⟩ := lcT_P P xs (acc ++ [r a]) _ h6 fun b m => k b (List.mem_cons_of_mem _ m)
      refine ⟨e', ?_, h8⟩
      simp only [still_nil, if_true, h1, h2, hp, h5, h7]; simp [hp]
    | false =>
      obtain ⟨e', h7, h8⟩ := lcT_P P xs acc _ (h4 hp) fun b m => k b (List.mem_cons_of_mem _ m)
      refine ⟨e', ?_, h8⟩
      simp only [still_nil, if_true, h1, h2, hp, Bool.false_eq_true, if_false, h7]; simp [hp]
theorem lcP (xs : List α) (enc : α → D) (p : α → Bool) (r : α → D) (P : Env → Prop) (h0 : P (wipes vs e)) (hit : it e S = .ok ⟨xs.map enc, []⟩ e S) (hl : xs.length ≤ 16777216)
    (k : ∀ a ∈ xs, ∀ e, P e → ∃ e1 e2, g (enc a) e S = .nx e1 S ∧ t e1 S = .ok (p a) e2 S ∧ (p a = true → ∃ e3, f e2 S = .ok (r a) e3 S ∧ P (wipes vs e3)) ∧ (p a = false → P (wipes vs e2))) :
    ∃ e', lLc vs it g t f e S = .ok ((xs.filter p).map r) (unwipe e vs e') S ∧ P e' := by
  obtain ⟨e', h1, h2⟩ := lcT_P (vs := vs) (f := f) (r := r) P xs [] _ h0 k
  refine ⟨e', ?_, h2⟩
  unfold lLc
  rw [hit]
  simp only [bind_ok, List.length_map, if_pos hl]
  rw [h1]
  rfl
/-- .. whose items change the store -/
theorem lcT_st {enc : α → D} {r : β → D} {e1 : α → Env} (R : Nat → List β → Store → Prop) : ∀ (xs : List α) (n : Nat) (acc : List β) (S : Store), R n acc S →
    (∀ a ∈ xs, ∀ S, g (enc a) e S = .nx (e1 a) S) → (∀ j acc S a, xs[j]? = some a → R (n + j) acc S → ∃ b S', f (e1 a) S = .ok (r b) (e1 a) S' ∧ R (n + j + 1) (acc ++ [b]) S') → (∀ a ∈ xs, wipes vs (e1 a) = e) →
    ∃ bs S', lcT [] vs g bTrue f (xs.map enc) (acc.map r) e S = .ok (bs.map r) e S' ∧ R (n + xs.length) bs S'
  | [], n, acc, S, h, _, _, _ => ⟨acc, S, by simp [lcT], h⟩
  | a :: xs, n, acc, S, h, hg, hf, hw => by
    obtain ⟨b, S', k1, k2⟩ := hf 0 acc S a rfl h
    obtain ⟨bs, S2, k3, k4⟩ := lcT_st R xs (n + 1) (acc ++ [b]) S' k2 (fun a m => hg a (List.mem_cons_of_mem _ m)) (fun j acc S a q h => by
      have := hf (j + 1) acc S a (by simpa using q) (by rw [show n + (j + 1) = n + 1 + j by omega]; exact h)
      rwa [show n + (j + 1) + 1 = n + 1 + j + 1 by omega] at this) (fun a m => hw a (List.mem_cons_of_mem _ m))
    refine ⟨bs, S2, ?_, by rw [List.length_cons, show n + (xs.length + 1) = n + 1 + xs.length by omega]; exact k4⟩
    rw [List.map_cons, lcT]
    simp only [still_nil, if_true, hg a List.mem_cons_self, bTrue_ap, k1, hw a List.mem_cons_self]
    rw [show acc.map r ++ [r b] = (acc ++ [b]).map r by simp]
    exact k3
theorem lcS (xs : List α) (enc : α → D) (r : β → D) (e1 : α → Env) (R : Nat → List β → Store → Prop) (h0 : R 0 [] S) (hit : it e S = .ok ⟨xs.map enc, []⟩ e S) (hl : xs.length ≤ 16777216)
    (hg : ∀ a ∈ xs, ∀ S, g (enc a) (wipes vs e) S = .nx (e1 a) S) (hf : ∀ j acc S a, xs[j]? = some a → R j acc S → ∃ b S', f (e1 a) S = .ok (r b) (e1 a) S' ∧ R (j + 1) (acc ++ [b]) S') (hw : ∀ a ∈ xs, wipes vs (e1 a) = wipes vs e) (hu : unwipe e vs (wipes vs e) = e' := by simp) :
    ∃ bs S', lLc vs it g bTrue f e S = .ok (bs.map r) e' S' ∧ R xs.length bs S' := by
  obtain ⟨bs, S', k1, k2⟩ := lcT_st (vs := vs) (f := f) R xs 0 [] S h0 hg (fun j acc S a q h => by rw [Nat.zero_add] at h ⊢; exact hf j acc S a q h) hw
  refine ⟨bs, S', ?_, by rw [Nat.zero_add] at k2; exact k2⟩
  unfold lLc
  rw [hit]
  simp only [bind_ok, List.length_map, if_pos hl]
  rw [List.map_nil] at k1
  rw [k1, ← hu]
  rfl
theorem lcT1_okN {enc : β → D} {p : β → Bool} {r : β → D} {e1 : β → Env} : ∀ (xs : List β) (acc : List D), acc.length + xs.length ≤ 16777216 →
    (∀ a ∈ xs, g1 (enc a) e S = .nx (e1 a) S) → (∀ a ∈ xs, t1 (e1 a) S = .ok (p a) (e1 a) S) → (∀ a ∈ xs, p a = true → f (e1 a) S = .ok (r a) (e1 a) S) → (∀ a ∈ xs, wipes vs (e1 a) = e) →
    lcT1 [] vs g1 t1 f (xs.map enc) acc e S = .ok (acc ++ (xs.filter p).map r) e S
  | [], acc, _, _, _, _, _ => by simp [lcT1]
  | a :: xs, acc, hl, hg, ht, hf, hw => by
    rw [List.length_cons] at hl
    have ih := fun acc hl => lcT1_okN (p := p) (r := r) xs acc hl (fun a m => hg a (List.mem_cons_of_mem _ m)) (fun a m => ht a (List.mem_cons_of_mem _ m)) (fun a m => hf a (List.mem_cons_of_mem _ m)) (fun a m => hw a (List.mem_cons_of_mem _ m))
    have m0 : a ∈ a :: xs := List.mem_cons_self
    rw [List.map_cons, lcT1]
    simp only [still_nil, if_true, hg a m0, ht a m0]
    cases hp : p a with
    | true =>
      have h1 : acc.length < 16777216 := by omega
      simp only [if_true, hf a m0 hp, hw a m0, if_pos h1, ih (acc ++ [r a]) (by rw [List.length_append, List.length_singleton]; omega)]; simp [hp]
    | false => simp only [Bool.false_eq_true, if_false, hw a m0, ih acc (by omega)]; simp [hp]
theorem lcT2_okN {enc : α → D} {enc1 : β → D} {ys : α → List β} {q : α → β → Bool} {r : α → β → D} {e1 : α → Env} {e2 : α → β → Env} : ∀ (xs : List α) (acc : List D), acc.length + (xs.flatMap ys).length ≤ 16777216 →
    (∀ a ∈ xs, g (enc a) e S = .nx (e1 a) S) → (∀ a ∈ xs, it1 (e1 a) S = .ok ⟨(ys a).map enc1, []⟩ (e1 a) S) → (∀ a ∈ xs, ∀ b ∈ ys a, g1 (enc1 b) (wipes vs1 (e1 a)) S = .nx (e2 a b) S) → (∀ a ∈ xs, ∀ b ∈ ys a, t1 (e2 a b) S = .ok (q a b) (e2 a b) S) →
    (∀ a ∈ xs, ∀ b ∈ ys a, q a b = true → f (e2 a b) S = .ok (r a b) (e2 a b) S) → (∀ a ∈ xs, ∀ b ∈ ys a, wipes vs1 (e2 a b) = wipes vs1 (e1 a)) → (∀ a ∈ xs, wipes vs (wipes vs1 (e1 a)) = e) →
    lcT2 [] vs vs1 g bTrue it1 g1 t1 f (xs.map enc) acc e S = .ok (acc ++ xs.flatMap fun a => ((ys a).filter (q a)).map (r a)) e S
  | [], acc, _, _, _, _, _, _, _, _ => by simp [lcT2]
  | a :: xs, acc, hl, hg, hi, hg1, ht, hf, hw1, hw => by
    rw [List.flatMap_cons, List.length_append] at hl
    have m0 : a ∈ a :: xs := List.mem_cons_self
    have lf : ((ys a).filter (q a)).length ≤ (ys a).length := List.length_filter_le ..
    have ih := lcT2_okN (q := q) (r := r) xs (acc ++ ((ys a).filter (q a)).map (r a)) (by rw [List.length_append, List.length_map]; omega) (fun a m => hg a (List.mem_cons_of_mem _ m)) (fun a m => hi a (List.mem_cons_of_mem _ m)) (fun a m => hg1 a (List.mem_cons_of_mem _ m)) (fun a m => ht a (List.mem_cons_of_mem _ m)) (fun a m => hf a (List.mem_cons_of_mem _ m)) (fun a m => hw1 a (List.mem_cons_of_mem _ m)) (fun a m => hw a (List.mem_cons_of_mem _ m))
    have h1 := lcT1_okN (S := S) (vs := vs1) (g1 := g1) (t1 := t1) (f := f) (ys a) acc (by omega) (hg1 a m0) (ht a m0) (hf a m0) (hw1 a m0)
    rw [List.map_cons, lcT2]
    simp only [still_nil, if_true, hg a m0, bTrue_ap, hi a m0, h1, hw a m0, ih]
    simp
/-- [f for .. in it for .. in it1 if t1] -/
theorem lc2 (xs : List α) (enc : α → D) (ys : α → List β) (enc1 : β → D) (q : α → β → Bool) (r : α → β → D) (e1 : α → Env) (e2 : α → β → Env) (hit : it e S = .ok ⟨xs.map enc, []⟩ e S) (hl : (xs.flatMap ys).length ≤ 16777216)
    (hg : ∀ a ∈ xs, g (enc a) (wipes vs e) S = .nx (e1 a) S) (hi : ∀ a ∈ xs, it1 (e1 a) S = .ok ⟨(ys a).map enc1, []⟩ (e1 a) S) (hg1 : ∀ a ∈ xs, ∀ b ∈ ys a, g1 (enc1 b) (wipes vs1 (e1 a)) S = .nx (e2 a b) S) (ht : ∀ a ∈ xs, ∀ b ∈ ys a, t1 (e2 a b) S = .ok (q a b) (e2 a b) S)
    (hf : ∀ a ∈ xs, ∀ b ∈ ys a, q a b = true → f (e2 a b) S = .ok (r a b) (e2 a b) S) (hw1 : ∀ a ∈ xs, ∀ b ∈ ys a, wipes vs1 (e2 a b) = wipes vs1 (e1 a)) (hw : ∀ a ∈ xs, wipes vs (wipes vs1 (e1 a)) = wipes vs e) (hu : unwipe e vs (wipes vs e) = e' := by simp) :
    lLc2 vs vs1 it g bTrue it1 g1 t1 f e S = .ok (xs.flatMap fun a => ((ys a).filter (q a)).map (r a)) e' S := by
  unfold lLc2
  rw [hit]
  simp only [bind_ok]
  rw [lcT2_okN xs [] (by simpa using hl) hg hi hg1 ht hf hw1 hw, ← hu]
  simp
/-! loops -/
variable {body : SM}
/-- each turn brings P further -/
theorem forA (enc : α → D) (P : Nat → Env → Prop) (xs : List α) (e : Env) (h : P 0 e)
    (k : ∀ j e a, xs[j]? = some a → P j e → ∃ e1 e2, g (enc a) e S = .nx e1 S ∧ body e1 S = .nx e2 S ∧ P (j + 1) e2) : ∃ e', turns [] g body (xs.map enc) e S = .nx e' S ∧ P xs.length e' := by
  have gen : ∀ (l : List α) (n : Nat) (e : Env), P n e → (∀ j e a, l[j]? = some a → P (n + j) e → ∃ e1 e2, g (enc a) e S = .nx e1 S ∧ body e1 S = .nx e2 S ∧ P (n + j + 1) e2) → ∃ e', turns [] g body (l.map enc) e S = .nx e' S ∧ P (n + l.length) e' := by
    intro l
    induction l with
    | nil => exact fun n e h _ => ⟨e, by simp [turns], h⟩
    | cons a l ih =>
      intro n e h k
      obtain ⟨e1, e2, h1, h2, h3⟩ := k 0 e a rfl h
      obtain ⟨e', h4, h5⟩ := ih (n + 1) e2 h3 fun j e a m q => by
        have := k (j + 1) e a (by simpa using m) (by rw [show n + (j + 1) = n + 1 + j by omega]; exact q)
        rwa [show n + (j + 1) + 1 = n + 1 + j + 1 by omega] at this
      refine ⟨e', ?_, by rw [List.length_cons, show n + (l.length + 1) = n + 1 + l.length by omega]; exact h5⟩
      rw [List.map_cons, turns]
      simp only [still_nil, if_true, h1, h2]
      exact h4
  obtain ⟨e', h1, h2⟩ := gen xs 0 e h (fun j e a m q => by rw [Nat.zero_add] at q ⊢; exact k j e a m q)
  exact ⟨e', h1, by rw [Nat.zero_add] at h2; exact h2⟩
/-- .. with the store -/
theorem forS (enc : α → D) (P : Nat → Env → Store → Prop) (xs : List α) (e : Env) (S : Store) (h : P 0 e S)
    (k : ∀ j e S a, xs[j]? = some a → P j e S → ∃ e1 e2 S2, g (enc a) e S = .nx e1 S ∧ body e1 S = .nx e2 S2 ∧ P (j + 1) e2 S2) : ∃ e' S', turns [] g body (xs.map enc) e S = .nx e' S' ∧ P xs.length e' S' := by
  have gen : ∀ (l : List α) (n : Nat) (e : Env) (S : Store), P n e S → (∀ j e S a, l[j]? = some a → P (n + j) e S → ∃ e1 e2 S2, g (enc a) e S = .nx e1 S ∧ body e1 S = .nx e2 S2 ∧ P (n + j + 1) e2 S2) → ∃ e' S', turns [] g body (l.map enc) e S = .nx e' S' ∧ P (n + l.length) e' S' := by
    intro l
    induction l with
    | nil => exact fun n e S h _ => ⟨e, S, by simp [turns], h⟩
    | cons a l ih =>
      intro n e S h k
      obtain ⟨e1, e2, S2, h1, h2, h3⟩ := k 0 e S a rfl h
      obtain ⟨e', S', h4, h5⟩ := ih (n + 1) e2 S2 h3 fun j e S a m q => by
        have := k (j + 1) e S a (by simpa using m) (by rw [show n + (j + 1) = n + 1 + j by omega]; exact q)
        rwa [show n + (j + 1) + 1 = n + 1 + j + 1 by omega] at this
      refine ⟨e', S', ?_, by rw [List.length_cons, show n + (l.length + 1) = n + 1 + l.length by omega]; exact h5⟩
      rw [List.map_cons, turns]
      simp only [still_nil, if_true, h1, h2]
      exact h4
  obtain ⟨e', S', h1, h2⟩ := gen xs 0 e S h (fun j e S a m q => by rw [Nat.zero_add] at q ⊢; exact k j e S a m q)
  exact ⟨e', S', h1, by rw [Nat.zero_add] at h2; exact h2⟩
/-- the first item with an answer ends the loop -/
theorem forR (enc : α → D) (P : Nat → Env → Prop) (bad : α → Option D) (xs : List α) (e : Env) (h : P 0 e)
    (k : ∀ j e a, xs[j]? = some a → P j e → ∃ e1, g (enc a) e S = .nx e1 S ∧ (∀ d, bad a = some d → body e1 S = .rt d S) ∧ (bad a = none → ∃ e2, body e1 S = .nx e2 S ∧ P (j + 1) e2)) :
    (∀ d, xs.findSome? bad = some d → turns [] g body (xs.map enc) e S = .rt d S) ∧ (xs.findSome? bad = none → ∃ e', turns [] g body (xs.map enc) e S = .nx e' S ∧ P xs.length e') := by
  have gen : ∀ (l : List α) (n : Nat) (e : Env), P n e → (∀ j e a, l[j]? = some a → P (n + j) e → ∃ e1, g (enc a) e S = .nx e1 S ∧ (∀ d, bad a = some d → body e1 S = .rt d S) ∧ (bad a = none → ∃ e2, body e1 S = .nx e2 S ∧ P (n + j + 1) e2)) →
      (∀ d, l.findSome? bad = some d → turns [] g body (l.map enc) e S = .rt d S) ∧ (l.findSome? bad = none → ∃ e', turns [] g body (l.map enc) e S = .nx e' S ∧ P (n + l.length) e') := by
    intro l
    induction l with
    | nil => exact fun n e h _ => ⟨fun d z => by simp at z, fun _ => ⟨e, by simp [turns], h⟩⟩
    | cons a l ih =>
      intro n e h k
      obtain ⟨e1, h1, h2, h3⟩ := k 0 e a rfl h
      cases hb : bad a with
      | some d =>
        have h2 := h2 d hb
        refine ⟨fun d' z => ?_, fun z => ?_⟩
        · rw [List.findSome?_cons, hb] at z
          cases z
          rw [List.map_cons, turns]
          simp only [still_nil, if_true, h1, h2]
        · rw [List.findSome?_cons, hb] at z; cases z
      | none =>
        obtain ⟨e2, h4, h5⟩ := h3 hb
        obtain ⟨k1, k2⟩ := ih (n + 1) e2 h5 fun j e a m q => by
          have := k (j + 1) e a (by simpa using m) (by rw [show n + (j + 1) = n + 1 + j by omega]; exact q)
          rwa [show n + (j + 1) + 1 = n + 1 + j + 1 by omega] at this
        rw [List.findSome?_cons, hb]
        refine ⟨fun d z => ?_, fun z => ?_⟩
        · rw [List.map_cons, turns]
          simp only [still_nil, if_true, h1, h4]
          exact k1 d z
        · obtain ⟨e', h6, h7⟩ := k2 z
          refine ⟨e', ?_, by rw [List.length_cons, show n + (l.length + 1) = n + 1 + l.length by omega]; exact h7⟩
          rw [List.map_cons, turns]
          simp only [still_nil, if_true, h1, h4]
          exact h6
  obtain ⟨k1, k2⟩ := gen xs 0 e h (fun j e a m q => by rw [Nat.zero_add] at q ⊢; exact k j e a m q)
  exact ⟨k1, fun z => by obtain ⟨e', h1, h2⟩ := k2 z; exact ⟨e', h1, by rw [Nat.zero_add] at h2; exact h2⟩⟩
end
end DL

/-! MA: what the small functions compute. -/
set_option linter.all false
namespace DL
abbrev eT (xs : List Int) : D := .tup (xs.map .int)
abbrev eL (xs : List Int) : D := .lst (xs.map .int)
abbrev eTT (xs : List (List Int)) : D := .tup (xs.map eT)
abbrev eLT (xs : List (List Int)) : D := .lst (xs.map eT)
abbrev eLL (xs : List (List Int)) : D := .lst (xs.map eL)
abbrev eF (p : Int × Int) : D := .tup [.int p.1, .int p.2]
section
variable {S : Store}
@[simp] theorem atI_map {α : Type} {f : α → D} {xs : List α} {i : Int} : DL.atI (xs.map f) i = (DL.atI xs i).map f := by
  unfold DL.atI
  rw [List.length_map]
  split
  · exact List.getElem?_map ..
  · split
    · exact List.getElem?_map ..
    · rfl
@[simp] theorem atI_0 {α : Type} {x : α} {xs : List α} : DL.atI (x :: xs) 0 = some x := rfl
@[simp] theorem atI_1 {α : Type} {x y : α} {xs : List α} : DL.atI (x :: y :: xs) 1 = some y := rfl
@[simp] theorem len_eq (a b : Nat) : (((a : Nat) : Int) == (b : Int)) = (a == b) := by
  rw [Bool.eq_iff_iff]; simp only [beq_iff_eq]; omega
theorem m_is_between (v l h : Int) : F_is_between [.int v, .int l, .int h] S = .ok (.bl (decide (l ≤ v) && decide (v ≤ h))) S := by
  by_cases h1 : l ≤ v <;> by_cases h2 : v ≤ h <;> simp [F_is_between, b_is_between, isTy, h1, h2]
/-! plans -/
def isW (n : Nat) (r : List Int) : Bool := r.length == n && r.all (fun x => decide (-1 ≤ x) && decide (x ≤ 1)) && r.any (· != 0)
theorem m_is_weighing (n : Nat) (r : List Int) (hr : r.length ≤ 1000) : F_is_weighing [.int n, eT r] S = .ok (.bl (isW n r)) S := by
  have h1 : c_is_weighing_1 [.val (.int n), .val (eT r), .non] S = .ok (r.map fun x => .bl (decide (-1 ≤ x) && decide (x ≤ 1))) [.val (.int n), .val (eT r), .non] S :=
    lLc_map r .int _ (fun a => [.val (.int n), .val (eT r), .val (.int a)]) rfl (by omega) (fun a _ => rfl) (fun a _ => by simp [m_is_between]) (fun a _ => rfl) rfl
  unfold isW
  cases c1 : r.length == n
  · simp [F_is_weighing, b_is_weighing, h1, c1, Function.comp_def]
  · cases c2 : r.all (fun x => decide (-1 ≤ x) && decide (x ≤ 1)) <;> simp [F_is_weighing, b_is_weighing, h1, c1, c2, Function.comp_def]
/-- rows of one length, at most so many -/
def isPB (most : Nat) (p : List (List Int)) : Bool := match p with
  | [] => false
  | r :: q => decide (q.length + 1 ≤ most) && (decide (1 ≤ r.length) && decide (r.length ≤ 4)) && isW r.length r && q.all (isW r.length)
theorem head_at {α : Type} {p : List α} {r : α} (h : DL.atI p 0 = some r) : ∃ q, p = r :: q := by
  cases p with
  | nil => cases h
  | cons a q => cases h; exact ⟨q, rfl⟩
theorem m_are_weighings (most : Nat) (p : List (List Int)) (r : List Int) (h0 : DL.atI p 0 = some r) (hp : p.length ≤ 1000) (hr : ∀ x ∈ p, x.length ≤ 1000) : F_are_weighings [eTT p, .int most] S = .ok (.bl (isPB most p)) S := by
  have h1 : c_are_weighings_1 [.val (eTT p), .val (.int most), .non] S = .ok (p.map fun x => .bl (isW r.length x)) [.val (eTT p), .val (.int most), .non] S :=
    lLc_map p eT _ (fun a => [.val (eTT p), .val (.int most), .val (eT a)]) rfl (by omega) (fun a _ => rfl) (fun a m => by simp [h0, m_is_weighing _ _ (hr a m)]) (fun a _ => rfl) rfl
  have e1 : (1 : Int) ≤ (p.length : Nat) := by
    obtain ⟨q, rfl⟩ := head_at h0
    simp only [List.length_cons]; omega
  have eP : isPB most p = (decide ((p.length : Int) ≤ (most : Nat)) && (decide ((1 : Int) ≤ (r.length : Nat)) && decide (((r.length : Nat) : Int) ≤ 4)) && p.all (isW r.length)) := by
    obtain ⟨q, rfl⟩ := head_at h0
    have a1 : decide (q.length + 1 ≤ most) = decide (((r :: q).length : Int) ≤ (most : Nat)) := decide_eq_decide.mpr (by simp only [List.length_cons]; omega)
    have a2 : decide (1 ≤ r.length) = decide ((1 : Int) ≤ (r.length : Nat)) := decide_eq_decide.mpr (by omega)
    have a3 : decide (r.length ≤ 4) = decide (((r.length : Nat) : Int) ≤ 4) := decide_eq_decide.mpr (by omega)
    show (decide (q.length + 1 ≤ most) && (decide (1 ≤ r.length) && decide (r.length ≤ 4)) && isW r.length r && q.all (isW r.length)) = _
    rw [a1, a2, a3, List.all_cons]
    simp only [Bool.and_assoc]
  rw [eP]
  by_cases c1 : (p.length : Int) ≤ (most : Nat)
  · by_cases c2 : (1 : Int) ≤ (r.length : Nat)
    · by_cases c3 : ((r.length : Nat) : Int) ≤ 4 <;> simp [F_are_weighings, b_are_weighings, h0, h1, c1, c2, c3, e1]
    · simp [F_are_weighings, b_are_weighings, h0, h1, c1, c2, e1]
  · simp [F_are_weighings, b_are_weighings, h0, h1, c1, e1]
theorem m_is_plan (p : List (List Int)) (r : List Int) (h0 : DL.atI p 0 = some r) (hp : p.length ≤ 1000) (hr : ∀ x ∈ p, x.length ≤ 1000) : F_is_plan [eTT p] S = .ok (.bl (isPB 8 p)) S := by
  have h := m_are_weighings (S := S) 8 p r h0 hp hr
  simp [F_is_plan, b_is_plan]
  rw [show ((8 : Int)) = ((8 : Nat) : Int) from rfl, h]
  rfl
/-- a plan -/
structure IsPlan (n : Nat) (p : List (List Int)) : Prop where
  n1 : 1 ≤ n
  n4 : n ≤ 4
  ne : p ≠ []
  p8 : p.length ≤ 8
  w : ∀ r ∈ p, isW n r = true
theorem isW_len {n : Nat} {r : List Int} (h : isW n r = true) : r.length = n := by
  unfold isW at h
  simp only [Bool.and_eq_true, beq_iff_eq] at h
  exact h.1.1
theorem isW_at {n : Nat} {r : List Int} (h : isW n r = true) {x : Int} (m : x ∈ r) : -1 ≤ x ∧ x ≤ 1 := by
  unfold isW at h
  simp only [Bool.and_eq_true, List.all_eq_true, decide_eq_true_eq] at h
  exact h.1.2 x m
theorem isPB_of {n : Nat} {p : List (List Int)} (h : IsPlan n p) : isPB 8 p = true := by
  cases p with
  | nil => exact (h.ne rfl).elim
  | cons r q =>
    have hr := isW_len (h.w r List.mem_cons_self)
    have h8 := h.p8
    have := h.n1
    have := h.n4
    rw [List.length_cons] at h8
    show (decide (q.length + 1 ≤ 8) && (decide (1 ≤ r.length) && decide (r.length ≤ 4)) && isW r.length r && q.all (isW r.length)) = true
    rw [hr]
    simp only [Bool.and_eq_true, decide_eq_true_eq, List.all_eq_true]
    exact ⟨⟨⟨h8, by omega, by omega⟩, h.w r List.mem_cons_self⟩, fun x m => h.w x (List.mem_cons_of_mem _ m)⟩
theorem of_isPB {p : List (List Int)} (h : isPB 8 p = true) : ∃ n, IsPlan n p := by
  cases p with
  | nil => cases h
  | cons r q =>
    have h : (decide (q.length + 1 ≤ 8) && (decide (1 ≤ r.length) && decide (r.length ≤ 4)) && isW r.length r && q.all (isW r.length)) = true := h
    simp only [Bool.and_eq_true, decide_eq_true_eq, List.all_eq_true] at h
    refine ⟨r.length, h.1.1.2.1, h.1.1.2.2, by simp, by simpa using h.1.1.1, fun x m => ?_⟩
    rcases List.mem_cons.mp m with e | e
    · rw [e]; exact h.1.2
    · exact h.2 x e
theorem IsPlan.at0 {n : Nat} {p : List (List Int)} (h : IsPlan n p) : ∃ r, DL.atI p 0 = some r ∧ r ∈ p ∧ r.length = n := by
  cases p with
  | nil => exact (h.ne rfl).elim
  | cons r q => exact ⟨r, rfl, List.mem_cons_self, isW_len (h.w r List.mem_cons_self)⟩
theorem IsPlan.len {n : Nat} {p : List (List Int)} (h : IsPlan n p) : ∀ x ∈ p, x.length ≤ 1000 := fun x m => by
  have := isW_len (h.w x m); have := h.n4; omega
theorem m_check_plan {n : Nat} {p : List (List Int)} (h : IsPlan n p) : F_check_plan [eTT p] S = .ok .non S := by
  obtain ⟨r, h0, _⟩ := h.at0
  have h1 := m_is_plan (S := S) p r h0 (by have := h.p8; omega) h.len
  simp [F_check_plan, b_check_plan, h1, isPB_of h]
/-! the greatest common divisor -/
theorem fmod_nat (a b : Nat) : (a : Int).fmod b = ((a % b : Nat) : Int) := by
  rw [Int.fmod_eq_emod_of_nonneg _ (by omega)]; simp
theorem gcd_turn (a b : Nat) (hb : b ≠ 0) : w_divisor_of_1 [.val (.int a), .val (.int b)] S = .nx [.val (.int b), .val (.int ((a % b : Nat) : Int))] S := by
  have hb' : ¬ ((b : Int) = 0) := by omega
  have e := fmod_nat a b
  simp only [w_divisor_of_1, sPar2_ap, aCons_ap, dV_ap, dB2_ap, aNil_ap, bind_ok, sE_ok, List.getElem?_cons_zero, List.getElem?_cons_succ, look_int, opMod_int, if_neg hb', e]
  rfl
theorem gcd_loop (a b : Nat) : ∀ n : Nat, b < n → whileN (dTest (dB2 (dV 1) (dC (.int 0)) opNe)) w_divisor_of_1 n [.val (.int a), .val (.int b)] S = .nx [.val (.int (Nat.gcd a b)), .val (.int 0)] S := by
  intro n
  induction n generalizing a b with
  | zero => intro h; omega
  | succ n ih =>
    intro h
    unfold whileN
    by_cases hb : b = 0
    · subst hb
      simp
    · have e1 : ((b : Int) == 0) = false := by simpa using hb
      have k := ih b (a % b) (by have := Nat.mod_lt a (Nat.pos_of_ne_zero hb); omega)
      have g : Nat.gcd b (a % b) = Nat.gcd a b := by rw [Nat.gcd_comm a b, Nat.gcd_rec b a, Nat.gcd_comm]
      rw [g] at k
      simp [e1, gcd_turn a b hb]
      exact k
theorem m_divisor_of (a b : Int) : F_divisor_of [.int a, .int b] S = .ok (.int (Int.gcd a b)) S := by
  have h := gcd_loop (S := S) a.natAbs b.natAbs (b.natAbs + 1) (by omega)
  simp [F_divisor_of, b_divisor_of, fuelI, h]
  rfl
end
end DL

/-! MB: sizes, fractions. -/
set_option linter.all false
namespace DL
section
variable {S : Store}
def Bd (k : Nat) (x : Int) : Prop := x.natAbs < 2 ^ k
theorem Bd.mono {i j : Nat} {x : Int} (h : Bd i x) (l : i ≤ j) : Bd j x := Nat.lt_of_lt_of_le h (Nat.pow_le_pow_right (by omega) l)
theorem Bd.zero {k : Nat} : Bd k 0 := Nat.pos_of_ne_zero (by simp)
theorem Bd.neg {k : Nat} {x : Int} (h : Bd k x) : Bd k (-x) := by unfold Bd; rw [Int.natAbs_neg]; exact h
theorem Bd.mul {i j : Nat} {x y : Int} (h : Bd i x) (g : Bd j y) : Bd (i + j) (x * y) := by
  unfold Bd at *
  rw [Int.natAbs_mul, Nat.pow_add]
  exact Nat.mul_lt_mul'' h g
theorem Bd.add {k : Nat} {x y : Int} (h : Bd k x) (g : Bd k y) : Bd (k + 1) (x + y) := by
  unfold Bd at *
  have := Int.natAbs_add_le x y
  rw [Nat.pow_succ]; omega
theorem Bd.sub {k : Nat} {x y : Int} (h : Bd k x) (g : Bd k y) : Bd (k + 1) (x - y) := by
  rw [Int.sub_eq_add_neg]; exact h.add g.neg
theorem Bd.of_le {k : Nat} {x y : Int} (h : Bd k y) (l : x.natAbs ≤ y.natAbs) : Bd k x := Nat.lt_of_le_of_lt l h
theorem log2_le {k n : Nat} (h : n < 2 ^ k) : n.log2 ≤ k := by
  by_cases h0 : n = 0
  · subst h0; simp
  · exact Nat.le_of_lt ((Nat.log2_lt h0).mpr h)
theorem mulOk_of {i j : Nat} {x y : Int} (h : Bd i x) (g : Bd j y) (l : i + j < 1000000) : mulOk x y = true := by
  unfold mulOk
  have := log2_le h
  have := log2_le g
  simp only [decide_eq_true_eq]; omega
theorem divOk_of {k : Nat} {x : Int} (h : Bd k x) (h0 : x ≠ 0) (l : k ≤ 9000) : divOk x = true := by
  unfold divOk
  have : x.natAbs.log2 < k := (Nat.log2_lt (by omega)).mpr h
  simp only [Bool.and_eq_true, decide_eq_true_eq]
  exact ⟨h0, by omega⟩
/-! fractions -/
def frac (t b : Int) : Int × Int :=
  let g : Int := if 0 < b then (Int.gcd t b : Int) else -(Int.gcd t b : Int)
  (t.fdiv g, b.fdiv g)
def sg (t b : Int) : Int := if 0 < b then (Int.gcd t b : Int) else -(Int.gcd t b : Int)
theorem frac_sg (t b : Int) : frac t b = (t.fdiv (sg t b), b.fdiv (sg t b)) := rfl
theorem sg_dvd_top (t b : Int) : sg t b ∣ t := by
  unfold sg; split
  · exact Int.gcd_dvd_left ..
  · exact Int.neg_dvd.mpr (Int.gcd_dvd_left ..)
theorem sg_dvd_bot (t b : Int) : sg t b ∣ b := by
  unfold sg; split
  · exact Int.gcd_dvd_right ..
  · exact Int.neg_dvd.mpr (Int.gcd_dvd_right ..)
theorem sg_ne {t b : Int} (h : b ≠ 0) : sg t b ≠ 0 := by
  have : (Int.gcd t b : Int) ≠ 0 := by
    intro e
    have : Int.gcd t b = 0 := by omega
    rw [Int.gcd_eq_zero_iff] at this
    exact h this.2
  unfold sg; split <;> omega
theorem fdiv_eq {a b : Int} (h : b ∣ a) : a.fdiv b = a / b := by
  rw [Int.fdiv_eq_ediv]
  simp [h]
theorem frac_top {t b : Int} (h : b ≠ 0) : (frac t b).1 * sg t b = t := by
  rw [frac_sg, fdiv_eq (sg_dvd_top t b)]
  exact Int.ediv_mul_cancel (sg_dvd_top t b)
theorem frac_bot {t b : Int} (h : b ≠ 0) : (frac t b).2 * sg t b = b := by
  rw [frac_sg]
  show b.fdiv (sg t b) * sg t b = b
  rw [fdiv_eq (sg_dvd_bot t b)]
  exact Int.ediv_mul_cancel (sg_dvd_bot t b)
theorem sg_le (t : Int) {b : Int} (h : b ≠ 0) : (sg t b).natAbs ≤ b.natAbs := Nat.le_of_dvd (by omega) (Int.natAbs_dvd_natAbs.mpr (sg_dvd_bot t b))
theorem frac_pos {t b : Int} (h : b ≠ 0) : 0 < (frac t b).2 := by
  have e := frac_bot (t := t) h
  have gn : 0 < (Int.gcd t b : Int) := by
    have := sg_ne (t := t) h
    unfold sg at this
    split at this <;> omega
  by_cases hb : 0 < b
  · have es : sg t b = (Int.gcd t b : Int) := if_pos hb
    rw [es] at e
    rcases Int.lt_trichotomy (frac t b).2 0 with k | k | k
    · have := Int.mul_neg_of_neg_of_pos k gn; omega
    · rw [k] at e; omega
    · exact k
  · have es : sg t b = -(Int.gcd t b : Int) := if_neg hb
    rw [es] at e
    rcases Int.lt_trichotomy (frac t b).2 0 with k | k | k
    · have := Int.mul_pos_of_neg_of_neg k (show -(Int.gcd t b : Int) < 0 by omega); omega
    · rw [k] at e; omega
    · exact k
theorem frac_bd1 {t b : Int} (h : b ≠ 0) : ((frac t b).1).natAbs ≤ t.natAbs := by
  have e := frac_top (t := t) h
  have := sg_ne (t := t) h
  have e2 := congrArg Int.natAbs e
  rw [Int.natAbs_mul] at e2
  rw [← e2]
  exact Nat.le_mul_of_pos_right _ (by omega)
theorem frac_bd2 {t b : Int} (h : b ≠ 0) : ((frac t b).2).natAbs ≤ b.natAbs := by
  have e := frac_bot (t := t) h
  have := sg_ne (t := t) h
  have e2 := congrArg Int.natAbs e
  rw [Int.natAbs_mul] at e2
  rw [← e2]
  exact Nat.le_mul_of_pos_right _ (by omega)
theorem m_fraction (t b : Int) (h0 : b ≠ 0) (hb : Bd 9000 b) : F_fraction [.int t, .int b] S = .ok (eF (frac t b)) S := by
  have hd : divOk (sg t b) = true := divOk_of (hb.of_le (sg_le t h0)) (sg_ne h0) (Nat.le_refl _)
  rw [frac_sg]
  unfold sg at hd ⊢
  by_cases c : 0 < b
  · simp only [c, if_true] at hd
    simp [F_fraction, b_fraction, m_divisor_of, c, hd]
  · simp only [c, if_false] at hd
    simp [F_fraction, b_fraction, m_divisor_of, c, hd]
theorem ratio_turn (t b : D) (x y : Nat) (hb : y ≠ 0) : w__law_ratio_1 [.val t, .val b, .val (.int x), .val (.int y)] S = .nx [.val t, .val b, .val (.int y), .val (.int ((x % y : Nat) : Int))] S := by
  have hb' : ¬ ((y : Int) = 0) := by omega
  have e := fmod_nat x y
  simp only [w__law_ratio_1, sPar2_ap, aCons_ap, dV_ap, dB2_ap, aNil_ap, bind_ok, sE_ok, List.getElem?_cons_zero, List.getElem?_cons_succ, look_int, opMod_int, if_neg hb', e]
  rfl
theorem ratio_loop (t b : D) (x y : Nat) : ∀ n : Nat, y < n → whileN (dTest (dB2 (dV 3) (dC (.int 0)) opNe)) w__law_ratio_1 n [.val t, .val b, .val (.int x), .val (.int y)] S = .nx [.val t, .val b, .val (.int (Nat.gcd x y)), .val (.int 0)] S := by
  intro n
  induction n generalizing x y with
  | zero => intro h; omega
  | succ n ih =>
    intro h
    unfold whileN
    by_cases hb : y = 0
    · subst hb
      simp
    · have e1 : ((y : Int) == 0) = false := by simpa using hb
      have k := ih y (x % y) (by have := Nat.mod_lt x (Nat.pos_of_ne_zero hb); omega)
      have g : Nat.gcd y (x % y) = Nat.gcd x y := by rw [Nat.gcd_comm x y, Nat.gcd_rec y x, Nat.gcd_comm]
      rw [g] at k
      simp [e1, ratio_turn t b x y hb]
      exact k
theorem m__law_ratio (t b : Int) (hd : divOk (sg t b) = true) : F__law_ratio [.int t, .int b] S = .ok (eF (frac t b)) S := by
  have h := ratio_loop (S := S) (.int t) (.int b) t.natAbs b.natAbs (b.natAbs + 1) (by omega)
  have eg : Nat.gcd t.natAbs b.natAbs = Int.gcd t b := rfl
  rw [frac_sg]
  unfold sg at hd ⊢
  by_cases c : 0 < b
  · simp only [c, if_true] at hd
    simp [F__law_ratio, b__law_ratio, fuelI, h, c, hd, eg]
  · simp only [c, if_false] at hd
    simp [F__law_ratio, b__law_ratio, fuelI, h, c, hd, eg]
end
end DL

/-! N2: fractions. -/
set_option linter.all false
set_option maxRecDepth 100000
namespace DL
theorem frac_coprime {t b : Int} (h : b ≠ 0) : Int.gcd (frac t b).1 (frac t b).2 = 1 := by
  have e1 := frac_top (t := t) h
  have e2 := frac_bot (t := t) h
  have gp : 0 < Int.gcd t b := by
    rcases Nat.eq_zero_or_pos (Int.gcd t b) with z | z
    · rw [Int.gcd_eq_zero_iff] at z; exact absurd z.2 h
    · exact z
  have hs : (sg t b).natAbs = Int.gcd t b := by unfold sg; split <;> simp
  have e3 : Int.gcd ((frac t b).1 * sg t b) ((frac t b).2 * sg t b) = Int.gcd t b := by rw [e1, e2]
  rw [Int.gcd_mul_right, hs] at e3
  exact Nat.eq_of_mul_eq_mul_right gp (by rw [e3, Nat.one_mul])
theorem eF_vQ {t b : Int} (h : b ≠ 0) : eF (frac t b) = vQ ((t : Rat) / (b : Rat)) := by
  have e1 := frac_top (t := t) h
  have e2 := frac_bot (t := t) h
  have hp := frac_pos (t := t) h
  have hc := frac_coprime (t := t) h
  have hs := sg_ne (t := t) h
  generalize frac t b = p at *
  obtain ⟨x, y⟩ := p
  dsimp only at e1 e2 hp hc
  have en : y.toNat ≠ 0 := by omega
  have ey : (y.toNat : Int) = y := by omega
  have hc' : x.natAbs.Coprime y.toNat := by
    have : y.toNat = y.natAbs := by omega
    rw [this]; exact hc
  have : ((t : Rat) / (b : Rat)) = ⟨x, y.toNat, en, hc'⟩ := by
    rw [Rat.mk_eq_divInt, ← Rat.divInt_eq_div, Rat.divInt_eq_divInt_iff h (by omega), ey]
    generalize sg t b = z at *
    rw [← e1, ← e2, Int.mul_assoc, Int.mul_comm z y]
  rw [this, vQ_def]
  show D.tup [.int x, .int y] = D.tup [.int x, .int (y.toNat : Int)]
  rw [ey]
/-- sizes -/
structure Sz (k : Nat) (q : Rat) : Prop where
  n : Bd k q.num
  d : Bd k (q.den : Int)
theorem Sz.mono {i j : Nat} {q : Rat} (h : Sz i q) (l : i ≤ j) : Sz j q := ⟨h.n.mono l, h.d.mono l⟩
theorem Sz.of_div {k : Nat} {t b : Int} (h : b ≠ 0) (ht : Bd k t) (hb : Bd k b) : Sz k ((t : Rat) / (b : Rat)) := by
  have e := eF_vQ (t := t) h
  rw [vQ_def] at e
  have e1 : (frac t b).1 = ((t : Rat) / (b : Rat)).num := by injection e with e; injection e with e; injection e
  have e2 : (frac t b).2 = (((t : Rat) / (b : Rat)).den : Int) := by injection e with e; injection e with _ e; injection e with e; injection e
  exact ⟨by rw [← e1]; exact ht.of_le (frac_bd1 h), by rw [← e2]; exact hb.of_le (frac_bd2 h)⟩
theorem Sz.int {k : Nat} {z : Int} (h : Bd k z) (hk : 1 ≤ k) : Sz k (z : Rat) := ⟨by simpa using h, by
  show Bd k ((1 : Nat) : Int)
  exact Bd.mono (i := 1) (by unfold Bd; decide) hk⟩
theorem Sz.zero {k : Nat} (hk : 1 ≤ k) : Sz k 0 := Sz.int (z := 0) .zero hk
theorem Sz.one {k : Nat} (hk : 1 ≤ k) : Sz k 1 := Sz.int (z := 1) (Bd.mono (i := 1) (by unfold Bd; decide) hk) hk
theorem Sz.neg {k : Nat} {q : Rat} (h : Sz k q) : Sz k (-q) := ⟨by simpa using h.n.neg, by simpa using h.d⟩
theorem den_ne (q : Rat) : (q.den : Int) ≠ 0 := by have := q.den_nz; omega
theorem add_div (p q : Rat) : p + q = ((p.num * q.den + q.num * p.den : Int) : Rat) / ((p.den * q.den : Int) : Rat) := by
  have h1 : p = Rat.divInt p.num p.den := (Rat.num_divInt_den p).symm
  have h2 : q = Rat.divInt q.num q.den := (Rat.num_divInt_den q).symm
  rw [← Rat.divInt_eq_div]
  calc p + q = Rat.divInt p.num p.den + Rat.divInt q.num q.den := by rw [← h1, ← h2]
    _ = _ := Rat.divInt_add_divInt _ _ (den_ne p) (den_ne q)
theorem mul_div (p q : Rat) : p * q = ((p.num * q.num : Int) : Rat) / ((p.den * q.den : Int) : Rat) := by
  have h1 : p = Rat.divInt p.num p.den := (Rat.num_divInt_den p).symm
  have h2 : q = Rat.divInt q.num q.den := (Rat.num_divInt_den q).symm
  rw [← Rat.divInt_eq_div]
  calc p * q = Rat.divInt p.num p.den * Rat.divInt q.num q.den := by rw [← h1, ← h2]
    _ = _ := Rat.divInt_mul_divInt _ _
theorem Sz.add {i j : Nat} {p q : Rat} (h : Sz i p) (g : Sz j q) : Sz (i + j + 1) (p + q) := by
  rw [add_div]
  refine Sz.of_div (Int.mul_ne_zero (den_ne p) (den_ne q)) ?_ ((h.d.mul g.d).mono (by omega))
  exact (h.n.mul g.d).add ((g.n.mul h.d).mono (by omega))
theorem Sz.mul {i j : Nat} {p q : Rat} (h : Sz i p) (g : Sz j q) : Sz (i + j) (p * q) := by
  rw [mul_div]
  exact Sz.of_div (Int.mul_ne_zero (den_ne p) (den_ne q)) (h.n.mul g.n) (h.d.mul g.d)
theorem Sz.sub {i j : Nat} {p q : Rat} (h : Sz i p) (g : Sz j q) : Sz (i + j + 1) (p - q) := by
  rw [Rat.sub_eq_add_neg]; exact h.add g.neg
section
variable {S : Store}
theorem m_fractionQ (t b : Int) (h0 : b ≠ 0) (hb : Bd 9000 b) : F_fraction [.int t, .int b] S = .ok (vQ ((t : Rat) / (b : Rat))) S := by
  rw [← eF_vQ h0]; exact m_fraction t b h0 hb
theorem m__law_ratioQ (t b : Int) (h0 : b ≠ 0) (hb : Bd 9000 b) : F__law_ratio [.int t, .int b] S = .ok (vQ ((t : Rat) / (b : Rat))) S := by
  rw [← eF_vQ h0]; exact m__law_ratio t b (divOk_of (hb.of_le (sg_le t h0)) (sg_ne h0) (Nat.le_refl _))
theorem m_plus {i j : Nat} {p q : Rat} (h : Sz i p) (g : Sz j q) (l : i + j ≤ 9000) : F_plus [vQ p, vQ q] S = .ok (vQ (p + q)) S := by
  have c1 := mulOk_of h.n g.d (by omega)
  have c2 := mulOk_of g.n h.d (by omega)
  have c3 := mulOk_of h.d g.d (by omega)
  have := m_fractionQ (S := S) (p.num * q.den + q.num * p.den) (p.den * q.den) (Int.mul_ne_zero (den_ne p) (den_ne q)) ((h.d.mul g.d).mono l)
  rw [← add_div] at this
  simp [F_plus, b_plus, c1, c2, c3, this]
theorem m_by_factor {i j : Nat} {p q : Rat} (h : Sz i p) (g : Sz j q) (l : i + j ≤ 9000) : F_by_factor [vQ p, vQ q] S = .ok (vQ (p * q)) S := by
  have c1 := mulOk_of h.n g.n (by omega)
  have c3 := mulOk_of h.d g.d (by omega)
  have := m_fractionQ (S := S) (p.num * q.num) (p.den * q.den) (Int.mul_ne_zero (den_ne p) (den_ne q)) ((h.d.mul g.d).mono l)
  rw [← mul_div] at this
  simp [F_by_factor, b_by_factor, c1, c3, this]
theorem m_negative (p : Rat) : F_negative [vQ p] S = .ok (vQ (-p)) S := by
  simp [F_negative, b_negative, neg_pair']
theorem m_less {i j : Nat} {p q : Rat} (h : Sz i p) (g : Sz j q) (l : i + j ≤ 9000) : F_less [vQ p, vQ q] S = .ok (vQ (p - q)) S := by
  have := m_plus (S := S) h g.neg l
  rw [Rat.sub_eq_add_neg]
  simp [F_less, b_less, m_negative, this]
theorem m_is_belowQ {i j : Nat} {p q : Rat} (h : Sz i p) (g : Sz j q) (l : i + j ≤ 900000) : F_is_below [vQ p, vQ q] S = .ok (.bl (decide (p < q))) S := by
  have c1 := mulOk_of h.n g.d (by omega)
  have c2 := mulOk_of g.n h.d (by omega)
  simp [F_is_below, b_is_below, c1, c2, Rat.lt_iff]
theorem m__law_plusQ {i j : Nat} {p q : Rat} (h : Sz i p) (g : Sz j q) (l : i + j ≤ 9000) : F__law_plus [vQ p, vQ q] S = .ok (vQ (p + q)) S := by
  have c1 := mulOk_of h.n g.d (by omega)
  have c2 := mulOk_of g.n h.d (by omega)
  have c3 := mulOk_of h.d g.d (by omega)
  have := m__law_ratioQ (S := S) (p.num * q.den + q.num * p.den) (p.den * q.den) (Int.mul_ne_zero (den_ne p) (den_ne q)) ((h.d.mul g.d).mono l)
  rw [← add_div] at this
  simp [F__law_plus, b__law_plus, c1, c2, c3, this]
theorem m__law_timesQ {i j : Nat} {p q : Rat} (h : Sz i p) (g : Sz j q) (l : i + j ≤ 9000) : F__law_times [vQ p, vQ q] S = .ok (vQ (p * q)) S := by
  have c1 := mulOk_of h.n g.n (by omega)
  have c3 := mulOk_of h.d g.d (by omega)
  have := m__law_ratioQ (S := S) (p.num * q.num) (p.den * q.den) (Int.mul_ne_zero (den_ne p) (den_ne q)) ((h.d.mul g.d).mono l)
  rw [← mul_div] at this
  simp [F__law_times, b__law_times, c1, c3, this]
theorem m__law_belowQ {i j : Nat} {p q : Rat} (h : Sz i p) (g : Sz j q) (l : i + j ≤ 900000) : F__law_below [vQ p, vQ q] S = .ok (.bl (decide (p < q))) S := by
  have c1 := mulOk_of h.n g.d (by omega)
  have c2 := mulOk_of g.n h.d (by omega)
  simp [F__law_below, b__law_below, c1, c2, Rat.lt_iff]
/-! sums -/
theorem sum_cons (x : Rat) (xs : List Rat) : (x :: xs).sum = x + xs.sum := List.sum_cons
theorem foldl_add (l : List Rat) : ∀ a : Rat, l.foldl (· + ·) a = a + l.sum := by
  induction l with
  | nil => intro a; simp [Rat.add_zero]
  | cons x l ih => intro a; rw [List.foldl_cons, ih, sum_cons, Rat.add_assoc]
theorem sum_take {l : List Rat} {j : Nat} {a : Rat} (h : l[j]? = some a) : (l.take (j + 1)).sum = (l.take j).sum + a := by
  obtain ⟨hj, e⟩ := List.getElem?_eq_some_iff.mp h
  rw [List.take_succ_eq_append_getElem hj, e, List.sum_append, List.sum_singleton]
theorem Sz.sum {k : Nat} : ∀ {l : List Rat}, (∀ x ∈ l, Sz k x) → Sz (l.length * (k + 1) + 1) l.sum
  | [], _ => Sz.zero (by omega)
  | x :: l, h => by
    have := Sz.add (h x List.mem_cons_self) (Sz.sum (l := l) fun y m => h y (List.mem_cons_of_mem _ m))
    rw [sum_cons]
    exact this.mono (by rw [List.length_cons, Nat.succ_mul]; omega)
/-- the items and all partial sums are of that size -/
structure PS (k : Nat) (l : List Rat) : Prop where
  it : ∀ x ∈ l, Sz k x
  sm : ∀ j, Sz k (l.take j).sum
theorem m_sum_of {k : Nat} {l : List Rat} (h : PS k l) (hb : k ≤ 4500) : F_sum_of [vL vQ l] S = .ok (vQ l.sum) S := by
  obtain ⟨e', h1, o, rfl⟩ := forA (S := S) (g := gName 2) (body := w_sum_of_1) vQ (fun j e => ∃ o, e = [.val (vL vQ l), .val (vQ (l.take j).sum), o]) l [.val (vL vQ l), .val (vQ 0), .non] ⟨.non, rfl⟩ (by
    rintro j e a ha ⟨o, rfl⟩
    have q := m_plus (S := S) (h.sm j) (h.it a (List.mem_of_getElem? ha)) (by omega)
    rw [← sum_take ha] at q
    exact ⟨_, [.val (vL vQ l), .val (vQ (l.take (j + 1)).sum), .val (vQ a)], rfl, by simp [w_sum_of_1, q], .val (vQ a), rfl⟩)
  rw [List.take_length] at h1
  simp [F_sum_of, b_sum_of, pair_0, h1]
theorem m__law_sum_ofQ {k : Nat} {l : List Rat} (h : PS k l) (hb : k ≤ 4500) : F__law_sum_of [vL vQ l] S = .ok (vQ l.sum) S := by
  obtain ⟨e', h1, o, rfl⟩ := forA (S := S) (g := gName 2) (body := w__law_sum_of_1) vQ (fun j e => ∃ o, e = [.val (vL vQ l), .val (vQ (l.take j).sum), o]) l [.val (vL vQ l), .val (vQ 0), .non] ⟨.non, rfl⟩ (by
    rintro j e a ha ⟨o, rfl⟩
    have q := m__law_plusQ (S := S) (h.sm j) (h.it a (List.mem_of_getElem? ha)) (by omega)
    rw [← sum_take ha] at q
    exact ⟨_, [.val (vL vQ l), .val (vQ (l.take (j + 1)).sum), .val (vQ a)], rfl, by simp [w__law_sum_of_1, q], .val (vQ a), rfl⟩)
  rw [List.take_length] at h1
  simp [F__law_sum_of, b__law_sum_of, pair_0, h1]
/-- the sum of products -/
def mulQ (r : List Int) (q : List Rat) : List Rat := List.zipWith (fun (a : Int) (b : Rat) => (a : Rat) * b) r q
def dotQ (r : List Int) (q : List Rat) : Rat := (mulQ r q).sum
def sqsL (q : List Rat) : List Rat := q.map fun x => x * x
def sqs (q : List Rat) : Rat := (sqsL q).sum
/-- what is walked may be a tuple or a list of fractions, of ints -/
structure IsSeq {α : Type} (f : α → D) (xs : List α) (d : D) : Prop where
  src : ∀ S, srcD S d = some ⟨xs.map f, []⟩
  lk : ∀ e S, look e S d = d
theorem IsSeq.T {α : Type} (f : α → D) (xs : List α) : IsSeq f xs (vT f xs) := ⟨fun _ => srcD_vT, fun _ _ => look_vT⟩
theorem IsSeq.L {α : Type} (f : α → D) (xs : List α) : IsSeq f xs (vL f xs) := ⟨fun _ => srcD_vL, fun _ _ => look_vL⟩
theorem pairUp_mapN {α β : Type} (f : α → D) (g : β → D) : ∀ (xs : List α) (ys : List β), pairUp (xs.map f) (ys.map g) = (xs.zip ys).map fun p => D.tup [f p.1, g p.2]
  | [], _ => by simp [pairUp]
  | _ :: _, [] => by simp [pairUp]
  | x :: xs, y :: ys => by simp [pairUp, pairUp_mapN f g xs ys]
theorem zip_mulQ (r : List Int) (q : List Rat) : (r.zip q).map (fun p => (p.1 : Rat) * p.2) = mulQ r q := by
  unfold mulQ
  rw [← List.map_uncurry_zip_eq_zipWith]; rfl
theorem m_led {k : Nat} {r : List Int} {q : List Rat} {dr dq : D} (hr : IsSeq D.int r dr) (hq : IsSeq vQ q dq) (h : ∀ x ∈ r, Bd k x) (g : ∀ x ∈ q, Sz k x) (hp : PS k (mulQ r q)) (h1 : 1 ≤ k) (hb : k ≤ 4500) (hl : r.length ≤ 1000) : F_led [dr, dq] S = .ok (vQ (dotQ r q)) S := by
  have c1 : c_led_1 [.val dr, .val dq, .non, .non] S = .ok ((r.zip q).map fun p => vQ ((p.1 : Rat) * p.2)) [.val dr, .val dq, .non, .non] S :=
    lcM (r.zip q) (fun p => D.tup [.int p.1, vQ p.2]) _ (fun p => [.val dr, .val dq, .val (.int p.1), .val (vQ p.2)]) (by simp [hr.src, hq.src, pairUp_mapN]) (by rw [List.length_zip]; omega) (fun p _ => rfl) (fun p m => by
      have := List.of_mem_zip (a := p.1) (b := p.2) m
      have q := m_by_factor (S := S) (Sz.int (h p.1 this.1) h1) (g p.2 this.2) (by omega)
      simp [pair_int, q]) (fun p _ => rfl)
  have e : (r.zip q).map (fun p => vQ ((p.1 : Rat) * p.2)) = (mulQ r q).map vQ := by rw [← zip_mulQ, List.map_map]; rfl
  rw [e] at c1
  have := m_sum_of (S := S) hp hb
  unfold dotQ
  generalize mulQ r q = L at *
  simp [F_led, b_led, c1, lst_map, this]
theorem m__law_led {k : Nat} {r : List Int} {q : List Rat} {dr dq : D} (hr : IsSeq D.int r dr) (hq : IsSeq vQ q dq) (h : ∀ x ∈ r, Bd k x) (g : ∀ x ∈ q, Sz k x) (hp : PS k (mulQ r q)) (h1 : 1 ≤ k) (hb : k ≤ 4500) : F__law_led [dr, dq] S = .ok (vQ (dotQ r q)) S := by
  obtain ⟨e', t1, o1, o2, rfl⟩ := forA (S := S) (g := gTup [gName 3, gName 4]) (body := w__law_led_1) (fun p : Int × Rat => D.tup [.int p.1, vQ p.2]) (fun k e => ∃ o1 o2, e = [.val dr, .val dq, .val (vQ ((mulQ r q).take k).sum), o1, o2]) (r.zip q) [.val dr, .val dq, .val (vQ 0), .non, .non] ⟨.non, .non, rfl⟩ (by
    rintro j e a ha ⟨o1, o2, rfl⟩
    have hm := List.of_mem_zip (a := a.1) (b := a.2) (List.mem_of_getElem? ha)
    have e1 : (mulQ r q)[j]? = some ((a.1 : Rat) * a.2) := by rw [← zip_mulQ, List.getElem?_map, ha]; rfl
    have q1 := m__law_timesQ (S := S) (Sz.int (h a.1 hm.1) h1) (g a.2 hm.2) (by omega)
    have q2 := m__law_plusQ (S := S) (hp.sm j) (hp.it _ (List.mem_of_getElem? e1)) (by omega)
    rw [← sum_take e1] at q2
    refine ⟨_, [.val dr, .val dq, .val (vQ ((mulQ r q).take (j + 1)).sum), .val (.int a.1), .val (vQ a.2)], rfl, ?_, .val (.int a.1), .val (vQ a.2), rfl⟩
    simp only [w__law_led_1, sAsg_ap, dCall_ap, aCons_ap, aNil_ap, dV_ap, dTup_ap, dC_ap, List.getElem?_cons_succ, List.getElem?_cons_zero, bind_ok, pair_int, q1, q2, sE_ok, gName_ap, List.set_cons_succ, List.set_cons_zero])
  rw [show (r.zip q).length = (mulQ r q).length by rw [← zip_mulQ, List.length_map], List.take_length] at t1
  simp [F__law_led, b__law_led, pair_0, hr.src, hq.src, pairUp_mapN, t1, dotQ]
theorem m__law_squares {k : Nat} {l : List Rat} {dq : D} (hq : IsSeq vQ l dq) (h : ∀ x ∈ l, Sz k x) (hp : PS k (sqsL l)) (hb : k ≤ 4500) : F__law_squares [dq] S = .ok (vQ (sqs l)) S := by
  obtain ⟨e', h1, o, rfl⟩ := forA (S := S) (g := gName 2) (body := w__law_squares_1) vQ (fun j e => ∃ o, e = [.val dq, .val (vQ ((sqsL l).take j).sum), o]) l [.val dq, .val (vQ 0), .non] ⟨.non, rfl⟩ (by
    rintro j e a ha ⟨o, rfl⟩
    have ha' : (sqsL l)[j]? = some (a * a) := by unfold sqsL; rw [List.getElem?_map, ha]; rfl
    have hs := h a (List.mem_of_getElem? ha)
    have q1 := m__law_timesQ (S := S) hs hs (by omega)
    have q := m__law_plusQ (S := S) (hp.sm j) (hp.it _ (List.mem_of_getElem? ha')) (by omega)
    rw [← sum_take ha'] at q
    exact ⟨_, [.val dq, .val (vQ ((sqsL l).take (j + 1)).sum), .val (vQ a)], rfl, by simp [w__law_squares_1, q, q1], .val (vQ a), rfl⟩)
  rw [show l.length = (sqsL l).length by simp [sqsL], List.take_length] at h1
  simp [F__law_squares, b__law_squares, pair_0, hq.src, h1, sqs]
end
/-! a common bottom -/
/-- q is a whole number of parts of 1 / D, of so many bits -/
structure Cm (D b : Nat) (q : Rat) : Prop where
  ex : ∃ z : Int, q * (D : Rat) = (z : Rat) ∧ Bd b z
theorem Cm.sz {D b d k : Nat} {q : Rat} (h : Cm D b q) (h0 : D ≠ 0) (hd : D < 2 ^ d) (k1 : b ≤ k) (k2 : d ≤ k) : Sz k q := by
  obtain ⟨z, h1, h2⟩ := h.ex
  have hD : ((D : Int) : Rat) ≠ 0 := by
    intro e
    have : ((D : Int) : Rat) = ((0 : Int) : Rat) := e
    rw [Rat.intCast_inj] at this; omega
  have e : q = (z : Rat) / ((D : Int) : Rat) := by
    have h3 : (z : Rat) / ((D : Int) : Rat) * ((D : Int) : Rat) = (z : Rat) := Rat.div_mul_cancel hD
    have h4 : q * ((D : Int) : Rat) = (z : Rat) := h1
    grind
  rw [e]
  exact Sz.of_div (by omega) (h2.mono k1) (Bd.mono (i := d) (by unfold Bd; simpa using hd) k2)
theorem Cm.mono {D b c : Nat} {q : Rat} (h : Cm D b q) (l : b ≤ c) : Cm D c q := by
  obtain ⟨z, h1, h2⟩ := h.ex
  exact ⟨z, h1, h2.mono l⟩
theorem Cm.zero {D b : Nat} : Cm D b 0 := ⟨0, by simp, .zero⟩
theorem Cm.add {D b : Nat} {p q : Rat} (h : Cm D b p) (g : Cm D b q) : Cm D (b + 1) (p + q) := by
  obtain ⟨z, h1, h2⟩ := h.ex
  obtain ⟨y, g1, g2⟩ := g.ex
  exact ⟨z + y, by rw [Rat.intCast_add]; grind, h2.add g2⟩
theorem Cm.neg {D b : Nat} {q : Rat} (h : Cm D b q) : Cm D b (-q) := by
  obtain ⟨z, h1, h2⟩ := h.ex
  exact ⟨-z, by rw [Rat.intCast_neg]; grind, h2.neg⟩
theorem Cm.mul {D E b c : Nat} {p q : Rat} (h : Cm D b p) (g : Cm E c q) : Cm (D * E) (b + c) (p * q) := by
  obtain ⟨z, h1, h2⟩ := h.ex
  obtain ⟨y, g1, g2⟩ := g.ex
  exact ⟨z * y, by rw [Rat.intCast_mul, Rat.natCast_mul]; grind, h2.mul g2⟩
theorem Cm.int {b : Nat} {z : Int} (h : Bd b z) : Cm 1 b (z : Rat) := ⟨z, by simp, h⟩
theorem Cm.mulI {D b c : Nat} {q : Rat} {z : Int} (g : Bd b z) (h : Cm D c q) : Cm D (b + c) ((z : Rat) * q) := by
  have := (Cm.int g).mul h
  rwa [Nat.one_mul] at this
theorem Cm.up {D E b c : Nat} {q : Rat} (h : Cm D b q) (he : E < 2 ^ c) : Cm (D * E) (b + c) q := by
  obtain ⟨z, h1, h2⟩ := h.ex
  exact ⟨z * (E : Int), by rw [Rat.intCast_mul, Rat.natCast_mul, Rat.intCast_natCast]; grind, h2.mul (by unfold Bd; simpa using he)⟩
theorem Cm.up' {D E b c : Nat} {q : Rat} (h : Cm D b q) (he : E < 2 ^ c) : Cm (E * D) (b + c) q := by rw [Nat.mul_comm]; exact h.up he
/-- 2 ^ t items: t bits more -/
theorem Cm.sum {D b : Nat} : ∀ (t : Nat) {l : List Rat}, (∀ x ∈ l, Cm D b x) → l.length ≤ 2 ^ t → Cm D (b + t) l.sum
  | 0, [], _, _ => .zero
  | 0, [x], h, _ => by rw [List.sum_singleton]; exact h x (by simp)
  | 0, _ :: _ :: _, _, hl => by simp at hl
  | t + 1, l, h, hl => by
    rw [← List.take_append_drop (2 ^ t) l, List.sum_append]
    have e : 2 ^ (t + 1) = 2 ^ t + 2 ^ t := by rw [Nat.pow_succ]; omega
    exact (Cm.sum t (l := l.take (2 ^ t)) (fun x m => h x (List.mem_of_mem_take m)) (by rw [List.length_take]; omega)).add (Cm.sum t (l := l.drop (2 ^ t)) (fun x m => h x (List.mem_of_mem_drop m)) (by rw [List.length_drop]; omega))
theorem PS.of_cm {D b d t k : Nat} {l : List Rat} (h : ∀ x ∈ l, Cm D b x) (h0 : D ≠ 0) (hd : D < 2 ^ d) (hl : l.length ≤ 2 ^ t) (k1 : b + t ≤ k) (k2 : d ≤ k) : PS k l :=
  ⟨fun x m => (h x m).sz h0 hd (by omega) k2, fun j => (Cm.sum t (fun x m => h x (List.mem_of_mem_take m)) (by rw [List.length_take]; omega)).sz h0 hd k1 k2⟩
theorem Cm.mulQ {D b c : Nat} {r : List Int} {q : List Rat} (h : ∀ x ∈ r, Bd b x) (g : ∀ x ∈ q, Cm D c x) : ∀ x ∈ mulQ r q, Cm D (b + c) x := fun x m => by
  rw [← zip_mulQ] at m
  obtain ⟨p, hp, rfl⟩ := List.mem_map.mp m
  have := List.of_mem_zip (a := p.1) (b := p.2) hp
  exact .mulI (h _ this.1) (g _ this.2)
theorem Cm.sqs {D b : Nat} {q : List Rat} (g : ∀ x ∈ q, Cm D b x) : ∀ x ∈ sqsL q, Cm (D * D) (b + b) x := fun x m => by
  obtain ⟨y, hy, rfl⟩ := List.mem_map.mp m
  exact (g y hy).mul (g y hy)
end DL

/-! MC: square tables. -/
set_option linter.all false
set_option maxRecDepth 100000
namespace DL
theorem turns_rel {α σ : Type} {g : GM} {body : SM} {S : Store} (enc : α → D) (P : σ → Env → Prop) (step : σ → α → σ) : ∀ (xs : List α) (b : σ) (e : Env), P b e →
    (∀ b e a, a ∈ xs → P b e → ∃ e1 e2, g (enc a) e S = .nx e1 S ∧ body e1 S = .nx e2 S ∧ P (step b a) e2) → ∃ e', turns [] g body (xs.map enc) e S = .nx e' S ∧ P (xs.foldl step b) e'
  | [], b, e, h, _ => ⟨e, by simp [turns], h⟩
  | a :: xs, b, e, h, k => by
    obtain ⟨e1, e2, h1, h2, h3⟩ := k b e a List.mem_cons_self h
    obtain ⟨e', h4, h5⟩ := turns_rel enc P step xs (step b a) e2 h3 fun b e a m => k b e a (List.mem_cons_of_mem _ m)
    refine ⟨e', ?_, h5⟩
    rw [List.map_cons, turns]
    simp only [still_nil, if_true, h1, h2]
    exact h4
/-- .. with what is known of the turn's number -/
theorem turns_at {α : Type} {g : GM} {body : SM} {S : Store} (enc : α → D) (P : Nat → Env → Prop) : ∀ (xs : List α) (n : Nat) (e : Env), P n e →
    (∀ j e a, xs[j]? = some a → P (n + j) e → ∃ e1 e2, g (enc a) e S = .nx e1 S ∧ body e1 S = .nx e2 S ∧ P (n + j + 1) e2) → ∃ e', turns [] g body (xs.map enc) e S = .nx e' S ∧ P (n + xs.length) e'
  | [], n, e, h, _ => ⟨e, by simp [turns], h⟩
  | a :: xs, n, e, h, k => by
    obtain ⟨e1, e2, h1, h2, h3⟩ := k 0 e a rfl h
    obtain ⟨e', h4, h5⟩ := turns_at enc P xs (n + 1) e2 h3 fun j e a m q => by
      have := k (j + 1) e a (by simpa using m) (by rw [show n + (j + 1) = n + 1 + j by omega]; exact q)
      rwa [show n + (j + 1) + 1 = n + 1 + j + 1 by omega] at this
    refine ⟨e', ?_, by rw [List.length_cons, show n + (xs.length + 1) = n + 1 + xs.length by omega]; exact h5⟩
    rw [List.map_cons, turns]
    simp only [still_nil, if_true, h1, h2]
    exact h4
section
variable {S : Store}
theorem rangeOk_nat {n : Nat} (h : n ≤ 1000000) : rangeOk 0 (n : Int) = true := by
  unfold rangeOk
  rw [Int.natAbs_natCast, decide_eq_true (show Int.natAbs 0 < 4611686018427387904 by decide), decide_eq_true (show n < 4611686018427387904 from Nat.lt_of_le_of_lt h (by decide))]
  rfl
theorem rngL_0n (n : Nat) : rngL 0 ((n : Int)).toNat = (List.range n).map fun i : Nat => D.int i := by rw [Int.toNat_natCast]; exact rngL_0 n
theorem hit_rng {f : EM} {e : Env} {n : Nat} (hf : f e S = .ok (.int n) e S) (h : n ≤ 1000000) : iRng1 f e S = .ok ⟨(List.range n).map fun i : Nat => D.int i, []⟩ e S := by
  rw [iRng1_ap, hf, bind_ok]
  dsimp only
  rw [if_pos (rangeOk_nat h), rngL_0n]
/-- an item, or 0 -/
def at0 (r : List Int) (i : Nat) : Int := r.getD i 0
theorem get_getD {r : List Int} {i : Nat} (h : i < r.length) : r[i]? = some (at0 r i) := by
  simp [at0, List.getD, h]
theorem at_getD {r : List Int} {i : Nat} (h : i < r.length) : DL.atI r (i : Int) = some (at0 r i) := by
  rw [atI_nat]; exact get_getD h
theorem Bd.getD {k : Nat} {r : List Int} (h : ∀ x ∈ r, Bd k x) (i : Nat) : Bd k (at0 r i) := by
  by_cases hi : i < r.length
  · have : at0 r i = r[i] := by simp [at0, List.getD, hi]
    rw [this]; exact h _ (List.getElem_mem ..)
  · have : at0 r i = 0 := by simp [at0, List.getD, hi]
    rw [this]; exact .zero
/-- rows of one length and size -/
structure Rows (n k : Nat) (p : List (List Int)) : Prop where
  len : ∀ r ∈ p, r.length = n
  bd : ∀ r ∈ p, ∀ x ∈ r, Bd k x
theorem IsPlan.rows {n : Nat} {p : List (List Int)} (h : IsPlan n p) : Rows n 1 p :=
  ⟨fun r m => isW_len (h.w r m), fun r m x hx => by have := isW_at (h.w r m) hx; unfold Bd; omega⟩
/-! AᵀA -/
def gram (n : Nat) (p : List (List Int)) : List (List Int) := (List.range n).map fun i => (List.range n).map fun j => (p.map fun r => at0 r i * at0 r j).sum
theorem m_square_of {n k : Nat} {p : List (List Int)} (h : Rows n k p) {r0 : List Int} (h0 : DL.atI p 0 = some r0) (hn : n ≤ 1000) (hk : k ≤ 1000) (hp : p.length ≤ 1000) : F_square_of [eTT p] S = .ok (eLL (gram n p)) S := by
  have l0 : r0.length = n := by
    obtain ⟨q, rfl⟩ := head_at h0
    exact h.len r0 List.mem_cons_self
  have h1 : ∀ i j : Nat, i < n → j < n → c_square_of_1 [.val (eTT p), .val (.int n), .non, .val (.int i), .val (.int j)] S = .ok (p.map fun r => .int (at0 r i * at0 r j)) [.val (eTT p), .val (.int n), .non, .val (.int i), .val (.int j)] S := fun i j hi hj =>
    lLc_map p eT _ (fun a => [.val (eTT p), .val (.int n), .val (eT a), .val (.int i), .val (.int j)]) rfl (by omega) (fun a _ => rfl)
      (fun a m => by simp [at_getD (r := a) (i := i) (by rw [h.len a m]; exact hi), at_getD (r := a) (i := j) (by rw [h.len a m]; exact hj), mulOk_of (Bd.getD (h.bd a m) i) (Bd.getD (h.bd a m) j) (by omega)]) (fun a _ => rfl) rfl
  have h2 : ∀ i : Nat, i < n → c_square_of_2 [.val (eTT p), .val (.int n), .non, .val (.int i), .non] S = .ok ((List.range n).map fun j => .int (p.map fun r => at0 r i * at0 r j).sum) [.val (eTT p), .val (.int n), .non, .val (.int i), .non] S := fun i hi =>
    lLc_map (List.range n) (fun j : Nat => D.int j) _ (fun j => [.val (eTT p), .val (.int n), .non, .val (.int i), .val (.int j)]) (hit_rng rfl (by omega)) (by simp; omega) (fun a _ => rfl) (fun j m => by
      have e := h1 i j hi (List.mem_range.mp m)
      simp only [dB1_ap, dFz_ap, e, bind_ok, look_lst, opSum_fmap]) (fun a _ => rfl) rfl
  have h3 : c_square_of_3 [.val (eTT p), .val (.int n), .non, .non, .non] S = .ok ((List.range n).map fun i => .lst ((List.range n).map fun j => .int (p.map fun r => at0 r i * at0 r j).sum)) [.val (eTT p), .val (.int n), .non, .non, .non] S :=
    lLc_map (List.range n) (fun j : Nat => D.int j) _ (fun i => [.val (eTT p), .val (.int n), .non, .val (.int i), .non]) (hit_rng rfl (by omega)) (by simp; omega) (fun a _ => rfl) (fun i m => by
      have e := h2 i (List.mem_range.mp m)
      simp only [dFz_ap, e, bind_ok]) (fun a _ => rfl) rfl
  simp [F_square_of, b_square_of, h0, l0, h3, gram, Function.comp_def]
/-! determinants -/
def det : Nat → List (List Int) → Int
  | 0, _ => 1
  | n + 1, t => match t with
    | [] => 1
    | r :: rs => r.zipIdx.foldl (fun acc p => if p.1 = 0 then acc else acc + (if p.2 % 2 = 0 then p.1 else -p.1) * det n (rs.map (·.eraseIdx p.2))) 0
theorem cut_erase {α : Type} (r : List α) (k : Nat) : cutD r none (some (k : Int)) ++ cutD r (some ((k : Int) + 1)) none = r.eraseIdx k := by
  rw [List.eraseIdx_eq_take_drop_succ]
  unfold cutD cutIx
  dsimp only
  have e1 : ((k : Int)).toNat = k := by omega
  have e2 : ((k : Int) + 1).toNat = k + 1 := by omega
  rw [if_pos (by omega), if_pos (by omega), e1, e2]
  have e3 : r.length - min (k + 1) r.length = (r.drop (k + 1)).length := by simp; omega
  have e4 : r.drop (min (k + 1) r.length) = r.drop (k + 1) := by
    by_cases h : k + 1 ≤ r.length
    · rw [Nat.min_eq_left h]
    · rw [Nat.min_eq_right (by omega), List.drop_eq_nil_of_le (by omega), List.drop_eq_nil_of_le (by omega)]
  have e5 : r.take (min k r.length) = r.take k := by
    by_cases h : k ≤ r.length
    · rw [Nat.min_eq_left h]
    · rw [Nat.min_eq_right (by omega), List.take_of_length_le (by omega), List.take_of_length_le (by omega)]
  rw [e4, e3, List.take_length]
  simp [e5]
theorem erase_map {α β : Type} (f : α → β) : ∀ (xs : List α) (k : Nat), (xs.map f).eraseIdx k = (xs.eraseIdx k).map f
  | [], _ => rfl
  | x :: xs, 0 => rfl
  | x :: xs, k + 1 => by simp [erase_map f xs k]
theorem map_cutD {α β : Type} (f : α → β) (xs : List α) (l h : Option Int) : (cutD xs l h).map f = cutD (xs.map f) l h := by
  unfold cutD; rw [List.map_take, List.map_drop, List.length_map]
theorem cut_tail {α : Type} (x : α) (xs : List α) : cutD (x :: xs) (some 1) none = xs := by
  unfold cutD cutIx
  simp
theorem Rows.tail {n k : Nat} {r : List Int} {t : List (List Int)} (h : Rows n k (r :: t)) : Rows n k t := ⟨fun x m => h.len x (List.mem_cons_of_mem _ m), fun x m => h.bd x (List.mem_cons_of_mem _ m)⟩
theorem Rows.erase {n k i : Nat} {t : List (List Int)} (h : Rows (n + 1) k t) (hi : i < n + 1) : Rows n k (t.map (·.eraseIdx i)) := by
  refine ⟨fun x m => ?_, fun x m y hy => ?_⟩
  · obtain ⟨r, hr, rfl⟩ := List.mem_map.mp m
    rw [List.length_eraseIdx_of_lt (by rw [h.len r hr]; exact hi), h.len r hr]; rfl
  · obtain ⟨r, hr, rfl⟩ := List.mem_map.mp m
    exact h.bd r hr y (List.mem_of_mem_eraseIdx hy)
theorem m_det (k : Nat) (hk : k ≤ 1000) : ∀ (n m : Nat) (t : List (List Int)), n < m → n ≤ 8 → t.length = n → Rows n k t → R_determinant m [eLL t] S = .ok (.int (det n t)) S ∧ Bd (n * (k + 3) + 1) (det n t)
  | 0, m + 1, t, _, _, hl, _ => by
    cases t with
    | nil => exact ⟨by simp [R_determinant, b_determinant, det], by simp [det, Bd]⟩
    | cons r t => cases hl
  | n + 1, m + 1, t, hm, h8, hl, h => by
    cases t with
    | nil => cases hl
    | cons r t =>
      have lt : t.length = n := by simpa using hl
      have lr : r.length = n + 1 := h.len r List.mem_cons_self
      have ih : ∀ i, i < n + 1 → R_determinant m [eLL (t.map (·.eraseIdx i))] S = .ok (.int (det n (t.map (·.eraseIdx i)))) S ∧ Bd (n * (k + 3) + 1) (det n (t.map (·.eraseIdx i))) := fun i hi =>
        m_det k hk n m _ (by omega) (by omega) (by simpa using lt) (h.tail.erase hi)
      have c1 : ∀ (f o : D) (i : Nat) (z : Sl), (z = .non ∨ ∃ d, z = .val d) → c_determinant_1 (R_determinant m) [.val (eLL (r :: t)), .val f, .val (.int i), .val o, z, .non] S = .ok (t.map fun q => eL (q.eraseIdx i)) [.val (eLL (r :: t)), .val f, .val (.int i), .val o, z, .non] S := fun f o i z hz =>
        lLc_map t eL _ (fun a => [.val (eLL (r :: t)), .val f, .val (.int i), .val o, z, .val (eL a)]) (by
            show iSeq _ _ _ = _
            simp [cut_tail]) (by omega) (fun a _ => rfl) (fun a m => by
            have lw : a.length ≤ 9 := by rw [h.len a (List.mem_cons_of_mem _ m)]; omega
            have e := cut_erase (a.map D.int) i
            have l1 : (cutD (a.map D.int) none (some (i : Int))).length + (cutD (a.map D.int) (some ((i : Int) + 1)) none).length ≤ 16777216 := by
              rw [← List.length_append, e]
              have := List.length_eraseIdx_le (a.map D.int) i
              simp only [List.length_map] at this; omega
            simp only [dB2_ap, dSl_ap, dV_ap, List.getElem?_cons_zero, List.getElem?_cons_succ, bind_ok, oNone_ap, oSome_ap, look_lst, opCut_lst, dC_ap, look_int, opAdd_int, opAdd_lst, if_pos l1, e, erase_map])
          (fun a _ => rfl) rfl
      have cM : k + (n * (k + 3) + 1) < 1000000 := by
        have : n * (k + 3) ≤ 8 * 1003 := Nat.mul_le_mul (by omega) (by omega)
        omega
      -- one turn
      have turn : ∀ (T : D) (acc x : Int) (i : Nat) (r1 : Sl), (∀ f o : D, c_determinant_1 (R_determinant m) [.val T, .val f, .val (.int i), .val o, r1, .non] S = .ok (t.map fun q => eL (q.eraseIdx i)) [.val T, .val f, .val (.int i), .val o, r1, .non] S) → i < n + 1 → Bd k x → x ≠ 0 →
          w_determinant_1 (R_determinant m) [.val T, .val (.int acc), .val (.int i), .val (.int x), r1, .non] S = .nx [.val T, .val (.int (acc + (if i % 2 = 0 then x else -x) * det n (t.map (·.eraseIdx i)))), .val (.int i), .val (.int x), .val (.lst (t.map fun q => eL (q.eraseIdx i))), .non] S := by
        intro T acc x i r1 hc hi bx h0
        obtain ⟨g1, g2⟩ := ih i hi
        have g1' : R_determinant m [.lst (t.map fun q => eL (q.eraseIdx i))] S = .ok (.int (det n (t.map (·.eraseIdx i)))) S := by
          rw [← g1]; simp only [eLL, List.map_map, Function.comp_def]
        generalize (t.map fun q => eL (q.eraseIdx i)) = Q at hc g1' ⊢
        generalize det n (t.map (·.eraseIdx i)) = dd at g1' g2 ⊢
        have hb : ((x == 0) = false) := by simpa using h0
        have e2 : ((i : Int).fmod 2 == 0) = decide (i % 2 = 0) := by
          rw [show (2 : Int) = ((2 : Nat) : Int) from rfl, fmod_nat, Bool.eq_iff_iff, beq_iff_eq, decide_eq_true_eq]; omega
        have m1 : mulOk x dd = true := mulOk_of bx g2 cM
        have m2 : mulOk (-x) dd = true := mulOk_of bx.neg g2 cM
        have e3 : opMod (.int i) (.int 2) = some (.int ((i : Int).fmod 2)) := rfl
        have e4 : opEq (.int ((i : Int).fmod 2)) (.int 0) = some (.bl (decide (i % 2 = 0))) := by rw [opEq_int, e2]
        by_cases hp : i % 2 = 0
        · rw [decide_eq_true hp] at e4
          simp [-opMod_int, -opEq_int, w_determinant_1, hb, hc, e3, e4, g1', m1, hp]
        · rw [decide_eq_false hp] at e4
          simp [-opMod_int, -opEq_int, w_determinant_1, hb, hc, e3, e4, g1', m2, hp]
      -- the loop
      have ex : ∃ e', turns [] (gTup [gName 2, gName 3]) (w_determinant_1 (R_determinant m)) (numbered 0 (r.map D.int)) [.val (eLL (r :: t)), .val (.int 0), .non, .non, .non, .non] S = .nx e' S ∧
          ∃ k1 o1 r1, (r1 = .non ∨ ∃ d, r1 = .val d) ∧ e' = [.val (eLL (r :: t)), .val (.int (det (n + 1) (r :: t))), k1, o1, r1, .non] := by
        rw [numbered_map]
        refine turns_rel (S := S) (fun p : Int × Nat => D.tup [.int (p.2 : Nat), .int p.1]) (fun (acc : Int) e => ∃ k1 o1 r1, (r1 = .non ∨ ∃ d, r1 = .val d) ∧ e = [.val (eLL (r :: t)), .val (.int acc), k1, o1, r1, .non])
          (fun acc p => if p.1 = 0 then acc else acc + (if p.2 % 2 = 0 then p.1 else -p.1) * det n (t.map (·.eraseIdx p.2))) r.zipIdx 0 _ ⟨.non, .non, .non, .inl rfl, rfl⟩ ?_
        rintro acc e ⟨x, i⟩ hm ⟨k1, o1, r1, hr1, rfl⟩
        have hx : i < n + 1 ∧ x ∈ r := by
          have := List.mem_zipIdx hm
          refine ⟨by omega, ?_⟩
          rw [this.2.2]; exact List.getElem_mem ..
        refine ⟨[.val (eLL (r :: t)), .val (.int acc), .val (.int i), .val (.int x), r1, .non], ?_⟩
        by_cases h0 : x = 0
        · subst h0
          refine ⟨_, rfl, ?_, .val (.int i), .val (.int 0), r1, hr1, rfl⟩
          generalize eLL (r :: t) = T
          simp [w_determinant_1]
        · refine ⟨_, rfl, turn _ acc x i r1 (fun f o => c1 f o i r1 hr1) hx.1 (h.bd r List.mem_cons_self x hx.2) h0, .val (.int i), .val (.int x), .val (.lst (t.map fun q => eL (q.eraseIdx i))), .inr ⟨_, rfl⟩, by simp only [if_neg h0]⟩
      obtain ⟨e', h1, k1, o1, r1, hr1, rfl⟩ := ex
      refine ⟨?_, ?_⟩
      · have en : opEq (.int (((r :: t).length : Nat) : Int)) (.int 0) = some (.bl false) := by
          rw [opEq_int, hl]
          have : (((n + 1 : Nat) : Int) == 0) = false := by
            rw [Bool.eq_false_iff]; simp only [ne_eq, beq_iff_eq]; omega
          rw [this]
        have el : opLen (eLL (r :: t)) = some (.int (((r :: t).length : Nat) : Int)) := by simp
        have ea : opIx (eLL (r :: t)) (.int 0) = some (eL r) := rfl
        have ek : ∀ e, look e S (eLL (r :: t)) = eLL (r :: t) := fun e => rfl
        generalize eLL (r :: t) = T at h1 el ea ek ⊢
        generalize (r :: t).length = L at en el
        simp [-opEq_int, R_determinant, b_determinant, el, ek, en, ea, h1]
      · have bound : ∀ (l : List Int) (off : Nat) (acc : Int) (j : Nat), (∀ x ∈ l, Bd k x) → off + l.length ≤ n + 1 → acc.natAbs + j ≤ j * 2 ^ (k + (n * (k + 3) + 1)) →
            (((l.zipIdx off).foldl (fun acc p => if p.1 = 0 then acc else acc + (if p.2 % 2 = 0 then p.1 else -p.1) * det n (t.map (·.eraseIdx p.2))) acc : Int)).natAbs + (j + l.length) ≤ (j + l.length) * 2 ^ (k + (n * (k + 3) + 1)) := by
          intro l
          induction l with
          | nil => intro off acc j _ _ ha; simpa using ha
          | cons x l il =>
            intro off acc j hx ho ha
            rw [List.zipIdx_cons, List.foldl_cons]
            have := il (off + 1) (if x = 0 then acc else acc + (if off % 2 = 0 then x else -x) * det n (t.map (·.eraseIdx off))) (j + 1) (fun y m => hx y (List.mem_cons_of_mem _ m)) (by simp only [List.length_cons] at ho; omega) (by
              have bx := hx x List.mem_cons_self
              obtain ⟨_, g2⟩ := ih off (by simp only [List.length_cons] at ho; omega)
              have p2 : 0 < 2 ^ (k + (n * (k + 3) + 1)) := Nat.pos_of_ne_zero (by simp)
              have q : Bd (k + (n * (k + 3) + 1)) ((if off % 2 = 0 then x else -x) * det n (t.map (·.eraseIdx off))) := Bd.mul (by split; exact bx; exact bx.neg) g2
              unfold Bd at q
              generalize 2 ^ (k + (n * (k + 3) + 1)) = B at *
              split
              · rw [Nat.succ_mul]; omega
              · have := Int.natAbs_add_le acc ((if off % 2 = 0 then x else -x) * det n (t.map (·.eraseIdx off)))
                rw [Nat.succ_mul]; omega)
            rw [List.length_cons, show j + (l.length + 1) = j + 1 + l.length by omega]
            exact this
        have b := bound r 0 0 0 (h.bd r List.mem_cons_self) (by omega) (by simp)
        show Bd _ (r.zipIdx.foldl _ 0)
        unfold Bd
        simp only [Nat.zero_add] at b
        have e8 : r.length ≤ 8 := by omega
        have e9 : 2 ^ ((n + 1) * (k + 3) + 1) = 8 * 2 ^ (k + (n * (k + 3) + 1)) := by
          rw [show (n + 1) * (k + 3) + 1 = 3 + (k + (n * (k + 3) + 1)) by rw [Nat.succ_mul]; omega, Nat.pow_add]
        rw [e9]
        have p2 : 0 < 2 ^ (k + (n * (k + 3) + 1)) := Nat.pos_of_ne_zero (by simp)
        have : r.length * 2 ^ (k + (n * (k + 3) + 1)) ≤ 8 * 2 ^ (k + (n * (k + 3) + 1)) := Nat.mul_le_mul_right _ e8
        omega
theorem m_determinant {k n : Nat} (hk : k ≤ 1000) {t : List (List Int)} (h5 : n ≤ 5) (hl : t.length = n) (h : Rows n k t) : F_determinant [eLL t] S = .ok (.int (det n t)) S ∧ Bd (n * (k + 3) + 1) (det n t) := m_det k hk n 6 t (by omega) (by omega) hl h
/-! the rest without a row and a column -/
def cross (t : List (List Int)) (i j : Nat) : List (List Int) := (t.eraseIdx i).map (·.eraseIdx j)
theorem zipIdx_fst {α β : Type} (f : α → β) : ∀ (t : List α) (o : Nat), ((t.zipIdx o).map fun p => f p.1) = t.map f
  | [], _ => rfl
  | x :: t, o => by rw [List.zipIdx_cons, List.map_cons, zipIdx_fst f t (o + 1)]; rfl
theorem zipIdx_ne {α β : Type} (f : α → β) : ∀ (t : List α) (o i : Nat), ((t.zipIdx o).filter fun p => !(p.2 == o + i)).map (fun p => f p.1) = (t.eraseIdx i).map f
  | [], _, _ => rfl
  | x :: t, o, 0 => by
    have : ∀ (t : List α) (o' : Nat), o < o' → ((t.zipIdx o').filter fun p => !(p.2 == o + 0)) = t.zipIdx o' := fun t o' ho => List.filter_eq_self.mpr fun p m => by
      have := List.mem_zipIdx (x := p.1) (i := p.2) m
      simp; omega
    rw [List.zipIdx_cons, List.filter_cons]
    simp only [Nat.add_zero, beq_self_eq_true, Bool.not_true, Bool.false_eq_true, if_false]
    have e := this t (o + 1) (by omega)
    simp only [Nat.add_zero] at e
    rw [e, zipIdx_fst]
    rfl
  | x :: t, o, i + 1 => by
    have ih := zipIdx_ne f t (o + 1) i
    rw [List.zipIdx_cons, List.filter_cons]
    have : (!(o == o + (i + 1))) = true := by simp
    simp only [this, if_true, List.map_cons, List.eraseIdx_cons_succ]
    rw [← ih, show o + 1 + i = o + (i + 1) by omega]
theorem m_without_cross {n k : Nat} {t : List (List Int)} (h : Rows n k t) (hn : n ≤ 1000) (ht : t.length ≤ 1000) (i j : Nat) : F_without_cross [eLL t, .int i, .int j] S = .ok (eLL (cross t i j)) S := by
  have h1 : c_without_cross_1 [.val (eLL t), .val (.int i), .val (.int j), .non, .non] S = .ok ((t.zipIdx.filter fun p => !(p.2 == i)).map fun p => eL (p.1.eraseIdx j)) [.val (eLL t), .val (.int i), .val (.int j), .non, .non] S :=
    lLc_ok t.zipIdx (fun p : List Int × Nat => D.tup [.int (p.2 : Nat), eL p.1]) _ _ (fun p => [.val (eLL t), .val (.int i), .val (.int j), .val (eL p.1), .val (.int (p.2 : Nat))])
      (by show iEnum _ _ _ = _; rw [iEnum_ap]; show (Out.ok (⟨numbered 0 (t.map eL), []⟩ : Src) _ _ : Out Src) = _; rw [numbered_map]) (by simp; omega) (fun a _ => rfl)
      (fun a m => by simp) (fun a m _ => by
        have hm : a.1 ∈ t := by
          have := List.mem_zipIdx (x := a.1) (i := a.2) m
          rw [this.2.2]; exact List.getElem_mem ..
        have lw : a.1.length ≤ 1000 := by rw [h.len a.1 hm]; exact hn
        have e := cut_erase (a.1.map D.int) j
        have l1 : (cutD (a.1.map D.int) none (some (j : Int))).length + (cutD (a.1.map D.int) (some ((j : Int) + 1)) none).length ≤ 16777216 := by
          rw [← List.length_append, e]
          have := List.length_eraseIdx_le (a.1.map D.int) j
          simp only [List.length_map] at this; omega
        simp only [dB2_ap, dSl_ap, dV_ap, List.getElem?_cons_zero, List.getElem?_cons_succ, bind_ok, oNone_ap, oSome_ap, look_lst, opCut_lst, dC_ap, look_int, opAdd_int, opAdd_lst, if_pos l1, e, erase_map]) (fun a _ => rfl) rfl
  have e : (t.zipIdx.filter fun p => !(p.2 == i)).map (fun p => eL (p.1.eraseIdx j)) = (cross t i j).map eL := by
    have := zipIdx_ne (fun r : List Int => eL (r.eraseIdx j)) t 0 i
    simp only [Nat.zero_add] at this
    rw [this]
    simp [cross, Function.comp_def]
  rw [e] at h1
  simp only [F_without_cross, fnOf_ap, b_without_cross, sRet_ap, dFz_ap]
  have es : start 5 [eLL t, .int i, .int j] = [.val (eLL t), .val (.int i), .val (.int j), .non, .non] := rfl
  rw [es, h1]
  rfl
end
end DL

/-! MD: rows made independent. -/
set_option linter.all false
set_option maxRecDepth 100000
namespace DL
section
variable {S : Store}
/-! the first place that is not 0 -/
def fp (r : List Int) : Nat := r.findIdx (· != 0)
def nz (r : List Int) : Bool := r.any (· != 0)
theorem fp_list : ∀ (r : List Int) (o : Nat), nz r = true → ∃ l, ((r.zipIdx o).filter fun p => !(p.1 == 0)).map (fun p => D.int (p.2 : Nat)) = D.int ((o + fp r : Nat) : Int) :: l
  | [], _, h => by cases h
  | x :: r, o, h => by
    by_cases hx : x = 0
    · subst hx
      have h' : nz r = true := by simpa [nz] using h
      obtain ⟨l, e⟩ := fp_list r (o + 1) h'
      refine ⟨l, ?_⟩
      rw [List.zipIdx_cons, List.filter_cons]
      simp only [beq_self_eq_true, Bool.not_true, Bool.false_eq_true, if_false]
      rw [e]
      have : fp (0 :: r) = fp r + 1 := by simp [fp, List.findIdx_cons]
      rw [this, show o + 1 + fp r = o + (fp r + 1) by omega]
    · have hb : (!(x == 0)) = true := by simpa using hx
      refine ⟨((r.zipIdx (o + 1)).filter fun p => !(p.1 == 0)).map (fun p => D.int (p.2 : Nat)), ?_⟩
      rw [List.zipIdx_cons, List.filter_cons]
      simp only [hb, if_true, List.map_cons]
      have hx' : (x != 0) = true := by simpa using hx
      have : fp (x :: r) = 0 := by simp only [fp, List.findIdx_cons, hx', cond_true]
      rw [this]; rfl
theorem fp_lt {r : List Int} (h : nz r = true) : fp r < r.length := by
  unfold fp
  rw [List.findIdx_lt_length]
  simpa [nz] using h
theorem fp_ne {r : List Int} (h : nz r = true) : at0 r (fp r) ≠ 0 := by
  have hl := fp_lt h
  have := List.findIdx_getElem (w := hl) (p := fun x : Int => x != 0)
  have e : at0 r (fp r) = r[fp r] := by simp [at0, List.getD, hl]
  have t : ((r[fp r]'hl) != 0) = true := this
  rw [e]
  intro q
  rw [q] at t
  exact absurd t (by decide)
theorem fp_before {r : List Int} {j : Nat} (h : j < fp r) : at0 r j = 0 := by
  by_cases hl : j < r.length
  · have := List.not_of_lt_findIdx (p := fun x : Int => x != 0) (xs := r) h
    have e : at0 r j = r[j] := by simp [at0, List.getD, hl]
    rw [e]
    simpa using this
  · simp [at0, List.getD, hl]
theorem m_first_place {r : List Int} (h : nz r = true) (hl : r.length ≤ 1000) : F_first_place [eL r] S = .ok (.int (fp r)) S := by
  have h1 : c_first_place_1 [.val (eL r), .non, .non] S = .ok ((r.zipIdx.filter fun p => !(p.1 == 0)).map fun p => D.int (p.2 : Nat)) [.val (eL r), .non, .non] S :=
    lLc_ok r.zipIdx (fun p : Int × Nat => D.tup [.int (p.2 : Nat), .int p.1]) _ _ (fun p => [.val (eL r), .val (.int (p.2 : Nat)), .val (.int p.1)])
      (by show iEnum _ _ _ = _; rw [iEnum_ap]; show (Out.ok (⟨numbered 0 (r.map D.int), []⟩ : Src) _ _ : Out Src) = _; rw [numbered_map]) (by simp; omega) (fun a _ => rfl)
      (fun a m => by simp) (fun a m _ => by simp) (fun a _ => rfl) rfl
  obtain ⟨l, e⟩ := fp_list r 0 h
  rw [e] at h1
  have es : start 3 [eL r] = [.val (eL r), .non, .non] := rfl
  simp only [F_first_place, fnOf_ap, b_first_place, sRet_ap, dB2_ap, dFz_ap, es, h1, bind_ok]
  rw [Nat.zero_add]
  rfl
/-! shortened -/
def gcdL (r : List Int) : Nat := r.foldl (fun (b : Nat) x => Int.gcd b x) 0
def shorten (r : List Int) : List Int := if 1 < gcdL r then r.map fun x => x.fdiv (gcdL r : Int) else r
theorem gcd_one : ∀ r : List Int, r.foldl (fun (b : Nat) x => Int.gcd b x) 1 = 1
  | [] => rfl
  | x :: r => by
    rw [List.foldl_cons]
    have : Int.gcd ((1 : Nat) : Int) x = 1 := by simp
    rw [this]; exact gcd_one r
theorem foldl_gcd_dvd : ∀ (r : List Int) (b : Nat), r.foldl (fun (b : Nat) x => Int.gcd b x) b ∣ b ∧ ∀ x ∈ r, ((r.foldl (fun (b : Nat) x => Int.gcd b x) b : Nat) : Int) ∣ x
  | [], b => ⟨Nat.dvd_refl _, by simp⟩
  | y :: r, b => by
    obtain ⟨h1, h2⟩ := foldl_gcd_dvd r (Int.gcd b y)
    rw [List.foldl_cons]
    refine ⟨Nat.dvd_trans h1 (by have := Int.gcd_dvd_left (a := (b : Int)) (b := y); exact Int.natCast_dvd_natCast.mp this), fun x m => ?_⟩
    rcases List.mem_cons.mp m with e | e
    · rw [e]; exact Int.dvd_trans (Int.natCast_dvd_natCast.mpr h1) (Int.gcd_dvd_right ..)
    · exact h2 x e
theorem gcdL_dvd {r : List Int} {x : Int} (m : x ∈ r) : (gcdL r : Int) ∣ x := (foldl_gcd_dvd r 0).2 x m
theorem shorten_len (r : List Int) : (shorten r).length = r.length := by unfold shorten; split <;> simp
/-- r is shorten r times something -/
theorem shorten_mul (r : List Int) : ∃ g : Int, 0 < g ∧ ∀ j, at0 (shorten r) j * g = at0 r j := by
  unfold shorten
  split
  · rename_i hg
    refine ⟨gcdL r, by omega, fun j => ?_⟩
    by_cases hj : j < r.length
    · have e1 : at0 (r.map fun x => x.fdiv (gcdL r : Int)) j = (r[j]).fdiv (gcdL r : Int) := by simp [at0, List.getD, hj]
      have e2 : at0 r j = r[j] := by simp [at0, List.getD, hj]
      have d := gcdL_dvd (List.getElem_mem hj)
      rw [e1, e2, fdiv_eq d]
      exact Int.ediv_mul_cancel d
    · have e1 : at0 (r.map fun x => x.fdiv (gcdL r : Int)) j = 0 := by simp [at0, List.getD, hj]
      have e2 : at0 r j = 0 := by simp [at0, List.getD, hj]
      rw [e1, e2]; simp
  · exact ⟨1, by omega, fun j => by omega⟩
theorem bd_all {k : Nat} {r : List Int} (h : ∀ j, Bd k (at0 r j)) : ∀ x ∈ r, Bd k x := fun x m => by
  obtain ⟨j, hj, e⟩ := List.getElem_of_mem m
  have := h j
  have e2 : at0 r j = r[j] := by simp [at0, List.getD, hj]
  rw [e2, e] at this; exact this
theorem shorten_bd {k : Nat} {r : List Int} (h : ∀ x ∈ r, Bd k x) : ∀ x ∈ shorten r, Bd k x := by
  obtain ⟨g, hg, e⟩ := shorten_mul r
  refine bd_all fun j => ?_
  have := Bd.getD h j
  refine this.of_le ?_
  rw [← e j, Int.natAbs_mul]
  exact Nat.le_mul_of_pos_right _ (by omega)
theorem short_loop (T : D) (T' : D) (hT : ∀ e, look e S T = T) (hl : opList T = some T') : ∀ (xs : List Int) (b : Nat) (o : Sl), (∃ o', (o' = o ∨ ∃ d, o' = .val d) ∧ turns [] (gName 2) w_shortened_1 (xs.map .int) [.val T, .val (.int b), o] S = .nx [.val T, .val (.int (xs.foldl (fun (b : Nat) x => Int.gcd b x) b : Nat)), o'] S) ∨
    (xs.foldl (fun (b : Nat) x => Int.gcd b x) b = 1 ∧ turns [] (gName 2) w_shortened_1 (xs.map .int) [.val T, .val (.int b), o] S = .rt T' S)
  | [], b, o => .inl ⟨o, .inl rfl, by simp [turns]⟩
  | x :: xs, b, o => by
    rw [List.map_cons, turns]
    simp only [still_nil, if_true, gName_ap, List.set_cons_succ, List.set_cons_zero, List.foldl_cons]
    have h1 : w_shortened_1 [.val T, .val (.int b), .val (.int x)] S = if (Int.gcd b x) = 1 then .rt T' S else .nx [.val T, .val (.int (Int.gcd b x : Nat)), .val (.int x)] S := by
      have e : (((Int.gcd b x : Nat) : Int) == 1) = decide (Int.gcd b x = 1) := by
        rw [Bool.eq_iff_iff, beq_iff_eq, decide_eq_true_eq]; omega
      by_cases hg : Int.gcd b x = 1
      · rw [if_pos hg]
        simp [w_shortened_1, m_divisor_of, hg, hT, hl]
      · rw [if_neg hg]
        rw [decide_eq_false hg] at e
        simp [w_shortened_1, m_divisor_of, e]
    rw [h1]
    by_cases hg : Int.gcd b x = 1
    · rw [if_pos hg]
      exact .inr ⟨by rw [hg]; exact gcd_one xs, rfl⟩
    · rw [if_neg hg]
      rcases short_loop T T' hT hl xs (Int.gcd b x) (.val (.int x)) with ⟨o', h2, h3⟩ | h2
      · refine .inl ⟨o', .inr ?_, h3⟩
        rcases h2 with e | e
        · exact ⟨_, e⟩
        · exact e
      · exact .inr h2
theorem m_shortened {k : Nat} {r : List Int} (h : ∀ x ∈ r, Bd k x) (hk : k ≤ 9000) (hl : r.length ≤ 1000) : F_shortened [eL r] S = .ok (eL (shorten r)) S := by
  have es : start 3 [eL r] = [.val (eL r), .non, .non] := rfl
  have c1 : ∀ o, 1 < gcdL r → (o = Sl.non ∨ ∃ d, o = .val d) → c_shortened_1 [.val (eL r), .val (.int (gcdL r : Nat)), o] S = .ok (r.map fun x => D.int (x.fdiv (gcdL r : Int))) [.val (eL r), .val (.int (gcdL r : Nat)), o] S := fun o hg ho => by
    have hd : divOk (gcdL r : Int) = true := by
      by_cases ha : ∃ x ∈ r, x ≠ 0
      · obtain ⟨x, m, hx⟩ := ha
        exact divOk_of ((h x m).of_le (Nat.le_of_dvd (by omega) (Int.natAbs_dvd_natAbs.mpr (gcdL_dvd m)))) (by omega) hk
      · exfalso
        have : gcdL r = 0 := by
          have z : ∀ (l : List Int), (∀ x ∈ l, x = 0) → l.foldl (fun (b : Nat) x => Int.gcd b x) 0 = 0 := by
            intro l
            induction l with
            | nil => intro _; rfl
            | cons y l il =>
              intro q
              rw [List.foldl_cons, q y List.mem_cons_self]
              exact il fun x m => q x (List.mem_cons_of_mem _ m)
          exact z r fun x m => Classical.byContradiction fun q => ha ⟨x, m, q⟩
        omega
    refine lLc_map r .int _ (fun a => [.val (eL r), .val (.int (gcdL r : Nat)), .val (.int a)]) rfl (by omega) (fun a _ => rfl) (fun a m => by simp [hd]) (fun a _ => rfl) ?_
    rcases ho with rfl | ⟨d, rfl⟩ <;> rfl
  simp only [F_shortened, fnOf_ap, es, b_shortened, sSeq_ap, sAsg_ap, dC_ap, sE_ok, gName_ap, List.set_cons_succ, List.set_cons_zero, sFor_ap, iSeq_ap, dV_ap, List.getElem?_cons_zero, bind_ok, srcD_lst]
  rcases short_loop (S := S) (eL r) (eL r) (fun _ => rfl) rfl r 0 .non with ⟨o, ho, e⟩ | ⟨e1, e2⟩
  · have e' : turns [] (gName 2) w_shortened_1 (List.map D.int r) [.val (eL r), .val (.int 0), .non] S = .nx [.val (eL r), .val (.int (gcdL r : Nat)), o] S := e
    rw [e']
    dsimp only
    unfold shorten
    have eg : decide ((1 : Int) < (gcdL r : Nat)) = decide (1 < gcdL r) := decide_eq_decide.mpr (by omega)
    by_cases hg : 1 < gcdL r
    · rw [if_pos hg]
      rw [decide_eq_true hg] at eg
      · simp only [sRet_ap, dIf_ap, dTest_ap, dB2_ap, dV_ap, List.getElem?_cons_succ, List.getElem?_cons_zero, bind_ok, dC_ap, look_int, opGt_int, eg, if_true, dFz_ap, c1 o hg ho, sE_ok, List.map_map, eL, Function.comp_def]
    · rw [if_neg hg]
      rw [decide_eq_false hg] at eg
      simp only [sRet_ap, dIf_ap, dTest_ap, dB2_ap, dB1_ap, dV_ap, List.getElem?_cons_succ, List.getElem?_cons_zero, bind_ok, dC_ap, look_int, opGt_int, eg, Bool.false_eq_true, if_false, sE_ok, look_lst, opList_lst]
  · have e2' : turns [] (gName 2) w_shortened_1 (List.map D.int r) [.val (eL r), .val (.int 0), .non] S = .rt (eL r) S := e2
    rw [e2']
    have : ¬ 1 < gcdL r := by unfold gcdL; omega
    unfold shorten
    rw [if_neg this]

/-! one row reduced by another -/
def comb (row other : List Int) (c d : Int) : List Int := List.zipWith (fun a b => a * c - d * b) row other
def red1 (row other : List Int) : List Int := if at0 row (fp other) ≠ 0 then shorten (comb row other (at0 other (fp other)) (at0 row (fp other))) else row
def reduce (row : List Int) (rows : List (List Int)) : List Int := rows.foldl red1 row
theorem comb_len {n : Nat} {row other : List Int} {c d : Int} (h1 : row.length = n) (h2 : other.length = n) : (comb row other c d).length = n := by
  unfold comb; rw [List.length_zipWith, h1, h2, Nat.min_self]
theorem comb_at {n : Nat} {row other : List Int} {c d : Int} (h1 : row.length = n) (h2 : other.length = n) (j : Nat) : at0 (comb row other c d) j = at0 row j * c - d * at0 other j := by
  unfold comb at0
  by_cases hj : j < n
  · simp [List.getD, List.getElem?_zipWith, h1, h2, hj]
  · simp [List.getD, List.getElem?_zipWith, h1, h2, hj]
theorem red1_len {n : Nat} {row other : List Int} (h1 : row.length = n) (h2 : other.length = n) : (red1 row other).length = n := by
  unfold red1; split
  · rw [shorten_len]; exact comb_len h1 h2
  · exact h1
/-- what one turn makes: times g it is a combination, in which the row itself counts -/
theorem red1_mul {n : Nat} {row other : List Int} (h1 : row.length = n) (h2 : other.length = n) (ho : nz other = true) : ∃ g c d : Int, g ≠ 0 ∧ c ≠ 0 ∧ (at0 row (fp other) = 0 → d = 0 ∧ red1 row other = row) ∧ ∀ j, at0 (red1 row other) j * g = at0 row j * c - d * at0 other j := by
  unfold red1
  split
  · rename_i h
    obtain ⟨g, hg, e⟩ := shorten_mul (comb row other (at0 other (fp other)) (at0 row (fp other)))
    refine ⟨g, at0 other (fp other), at0 row (fp other), by omega, fp_ne ho, fun z => absurd z h, fun j => ?_⟩
    rw [e, comb_at h1 h2]
  · exact ⟨1, 1, 0, by omega, by omega, fun _ => ⟨rfl, rfl⟩, fun j => by omega⟩
theorem red1_zero {n : Nat} {row other : List Int} (h1 : row.length = n) (h2 : other.length = n) (ho : nz other = true) : at0 (red1 row other) (fp other) = 0 := by
  unfold red1
  split
  · obtain ⟨g, hg, e⟩ := shorten_mul (comb row other (at0 other (fp other)) (at0 row (fp other)))
    have q := e (fp other)
    rw [comb_at h1 h2, Int.mul_comm (at0 row (fp other)), Int.sub_self] at q
    rcases Int.mul_eq_zero.mp q with z | z
    · exact z
    · omega
  · rename_i h; exact Classical.byContradiction h
theorem red1_keep {n j : Nat} {row other : List Int} (h1 : row.length = n) (h2 : other.length = n) (ho : nz other = true) (hr : at0 row j = 0) (hq : at0 other j = 0) : at0 (red1 row other) j = 0 := by
  obtain ⟨g, c, d, hg, hc, _, e⟩ := red1_mul h1 h2 ho
  have q := e j
  rw [hr, hq] at q
  simp at q
  exact (Int.mul_eq_zero.mp q).resolve_right hg
theorem red1_bd {i k n : Nat} {row other : List Int} (h1 : row.length = n) (h2 : other.length = n) (hr : ∀ x ∈ row, Bd i x) (hq : ∀ x ∈ other, Bd k x) : ∀ x ∈ red1 row other, Bd (i + k + 1) x := by
  unfold red1
  split
  · refine shorten_bd (bd_all fun j => ?_)
    rw [comb_at h1 h2]
    exact Bd.sub (Bd.mul (Bd.getD hr j) (Bd.getD hq _)) (Bd.mul (Bd.getD hr _) (Bd.getD hq j))
  · exact fun x m => (hr x m).mono (by omega)
theorem m_red_turn {i k n : Nat} {row other : List Int} (T : D) (pl o t : Sl) (h1 : row.length = n) (h2 : other.length = n) (hn : n ≤ 1000) (ho : nz other = true) (hr : ∀ x ∈ row, Bd i x) (hq : ∀ x ∈ other, Bd k x) (hik : i + k + 1 ≤ 9000)
    (hp : pl = .non ∨ ∃ d, pl = .val d) (hoo : o = .non ∨ ∃ d, o = .val d) (ht : t = .non ∨ ∃ d, t = .val d) :
    w_reduced_1 [.val (eL row), .val T, .val (eL other), pl, o, t] S = .nx [.val (eL (red1 row other)), .val T, .val (eL other), .val (.int (fp other)), o, t] S := by
  have f := m_first_place (S := S) ho (by omega)
  have hlt : fp other < n := by have := fp_lt ho; omega
  have a1 : DL.atI row (fp other : Int) = some (at0 row (fp other)) := at_getD (by omega)
  have a2 : DL.atI other (fp other : Int) = some (at0 other (fp other)) := at_getD (by omega)
  have ix1 : opIx (eL row) (.int (fp other)) = some (.int (at0 row (fp other))) := by simp [a1]
  have ix2 : opIx (eL other) (.int (fp other)) = some (.int (at0 other (fp other))) := by simp [a2]
  unfold red1
  by_cases hz : at0 row (fp other) = 0
  · have : ¬ (at0 row (fp other) ≠ 0) := fun h => h hz
    rw [if_neg this]
    rw [hz] at ix1
    have lk : ∀ e, look e S (eL row) = eL row := fun _ => rfl
    generalize eL row = R at ix1 lk ⊢
    generalize eL other = O at f ⊢
    simp [w_reduced_1, f, ix1, lk]
  · rw [if_pos hz]
    have c1 : c_reduced_1 [.val (eL row), .val T, .val (eL other), .val (.int (fp other)), o, t] S = .ok ((comb row other (at0 other (fp other)) (at0 row (fp other))).map .int) [.val (eL row), .val T, .val (eL other), .val (.int (fp other)), o, t] S := by
      have e : (comb row other (at0 other (fp other)) (at0 row (fp other))).map D.int = (row.zip other).map fun p => D.int (p.1 * at0 other (fp other) - at0 row (fp other) * p.2) := by
        unfold comb
        rw [← List.map_uncurry_zip_eq_zipWith, List.map_map]
        rfl
      rw [e]
      refine lLc_map (row.zip other) (fun p : Int × Int => D.tup [.int p.1, .int p.2]) _ (fun p => [.val (eL row), .val T, .val (eL other), .val (.int (fp other)), .val (.int p.1), .val (.int p.2)])
        (by show iZip _ _ _ _ = _; rw [iZip_ap]; show (Out.ok (⟨pairUp (row.map D.int) (other.map D.int), []⟩ : Src) _ _ : Out Src) = _; rw [pairUp_map]) (by rw [List.length_zip]; omega) (fun a _ => rfl) (fun p m => ?_) (fun a _ => rfl) ?_
      · have m1 : p.1 ∈ row := (List.of_mem_zip (a := p.1) (b := p.2) m).1
        have m2 : p.2 ∈ other := (List.of_mem_zip (a := p.1) (b := p.2) m).2
        have k1 : mulOk p.1 (at0 other (fp other)) = true := mulOk_of (hr _ m1) (Bd.getD hq _) (by omega)
        have k2 : mulOk (at0 row (fp other)) p.2 = true := mulOk_of (Bd.getD hr _) (hq _ m2) (by omega)
        have lk1 : ∀ e, look e S (eL row) = eL row := fun _ => rfl
        have lk2 : ∀ e, look e S (eL other) = eL other := fun _ => rfl
        generalize eL row = R at ix1 lk1 ⊢
        generalize eL other = O at ix2 lk2 ⊢
        simp [ix1, ix2, lk1, lk2, k1, k2]
      · rcases hoo with rfl | ⟨d, rfl⟩ <;> rcases ht with rfl | ⟨d', rfl⟩ <;> rfl
    have sh := m_shortened (S := S) (k := i + k + 1) (r := comb row other (at0 other (fp other)) (at0 row (fp other))) (bd_all fun j => by rw [comb_at h1 h2]; exact Bd.sub (Bd.mul (Bd.getD hr j) (Bd.getD hq _)) (Bd.mul (Bd.getD hr _) (Bd.getD hq j))) hik (by rw [comb_len h1 h2]; exact hn)
    have nb : (at0 row (fp other) == 0) = false := by simpa using hz
    generalize hQ : eL (shorten (comb row other (at0 other (fp other)) (at0 row (fp other)))) = Q at sh ⊢
    have sh' : F_shortened [.lst ((comb row other (at0 other (fp other)) (at0 row (fp other))).map .int)] S = .ok Q S := sh
    generalize (comb row other (at0 other (fp other)) (at0 row (fp other))).map D.int = C at c1 sh'
    have lk1 : ∀ e, look e S (eL row) = eL row := fun _ => rfl
    generalize eL row = R at ix1 lk1 c1 ⊢
    generalize eL other = O at f c1 ⊢
    rcases hp with rfl | ⟨d, rfl⟩ <;> simp [w_reduced_1, f, ix1, lk1, nb, c1, sh']
end
end DL

/-! ME: independent rows, and what they leave undecided. -/
set_option linter.all false
set_option maxRecDepth 100000
namespace DL
/-! places -/
theorem nodup_len : ∀ (n : Nat) (l : List Nat), l.Nodup → (∀ x ∈ l, x < n) → l.length ≤ n
  | 0, l, _, h => by
    cases l with
    | nil => simp
    | cons x l => exact absurd (h x List.mem_cons_self) (by omega)
  | n + 1, l, hd, h => by
    by_cases hn : n ∈ l
    · have := nodup_len n (l.erase n) (hd.erase n) fun x m => by
        have h1 := h x (List.mem_of_mem_erase m)
        have h2 : x ≠ n := fun e => by
          subst e
          exact (List.Nodup.not_mem_erase hd) m
        omega
      rw [List.length_erase_of_mem hn] at this
      omega
    · have := nodup_len n l hd fun x m => by
        have h1 := h x m
        have h2 : x ≠ n := fun e => hn (by rw [← e]; exact m)
        omega
      omega
theorem nodup_full {n : Nat} {l : List Nat} (hd : l.Nodup) (h : ∀ x ∈ l, x < n) (hl : l.length = n) {j : Nat} (hj : j < n) : j ∈ l := Classical.byContradiction fun q => by
  have := nodup_len n (j :: l) (List.nodup_cons.mpr ⟨q, hd⟩) fun x m => by
    rcases List.mem_cons.mp m with e | e
    · rw [e]; exact hj
    · exact h x e
  rw [List.length_cons] at this
  omega
theorem fp_eq {r : List Int} {p : Nat} (h : at0 r p ≠ 0) (hb : ∀ j, j < p → at0 r j = 0) : fp r = p ∧ nz r = true := by
  have hp : p < r.length := Classical.byContradiction fun q => h (by simp [at0, List.getD, q])
  have hn : nz r = true := by
    have e : at0 r p = r[p] := by simp [at0, List.getD, hp]
    unfold nz
    rw [List.any_eq_true]
    exact ⟨r[p], List.getElem_mem .., by simpa [e] using h⟩
  refine ⟨?_, hn⟩
  rcases Nat.lt_trichotomy (fp r) p with k | k | k
  · exact absurd (hb _ k) (fp_ne hn)
  · exact k
  · exact absurd (fp_before k) h
theorem zero_of_nz {r : List Int} (h : nz r = false) (j : Nat) : at0 r j = 0 := by
  by_cases hj : j < r.length
  · have e : at0 r j = r[j] := by simp [at0, List.getD, hj]
    unfold nz at h
    rw [List.any_eq_false] at h
    have := h r[j] (List.getElem_mem ..)
    rw [e]; simpa using this
  · simp [at0, List.getD, hj]
theorem nz_of {r : List Int} {j : Nat} (h : at0 r j ≠ 0) : nz r = true := Classical.byContradiction fun q => h (zero_of_nz (by simpa using q) j)
/-! what a vector leaves undecided -/
def dot : Nat → List Int → (Nat → Int) → Int
  | 0, _, _ => 0
  | n + 1, r, w => dot n r w + at0 r n * w n
theorem dot_lin {x a b : List Int} {g c d : Int} (w : Nat → Int) (h : ∀ j, at0 x j * g = at0 a j * c - d * at0 b j) : ∀ n, dot n x w * g = dot n a w * c - d * dot n b w
  | 0 => by simp [dot]
  | n + 1 => by
    have ih := dot_lin w h n
    have e := h n
    unfold dot
    have e1 : (dot n x w + at0 x n * w n) * g = dot n x w * g + (at0 x n * g) * w n := by grind
    rw [e1, ih, e]
    grind
theorem dot_zero {r : List Int} (w : Nat → Int) (h : ∀ j, at0 r j = 0) : ∀ n, dot n r w = 0
  | 0 => rfl
  | n + 1 => by unfold dot; rw [dot_zero w h n, h n]; simp
def Ker (n : Nat) (rows : List (List Int)) (w : Nat → Int) : Prop := ∀ r ∈ rows, dot n r w = 0
theorem red1_dot {n : Nat} {row other : List Int} (h1 : row.length = n) (h2 : other.length = n) (ho : nz other = true) {w : Nat → Int} (hw : dot n other w = 0) : dot n (red1 row other) w = 0 ↔ dot n row w = 0 := by
  obtain ⟨g, c, d, hg, hc, _, e⟩ := red1_mul h1 h2 ho
  have q := dot_lin w e n
  rw [hw, Int.mul_zero, Int.sub_zero] at q
  constructor
  · intro z
    rw [z, Int.zero_mul] at q
    exact (Int.mul_eq_zero.mp q.symm).resolve_right hc
  · intro z
    rw [z, Int.zero_mul] at q
    exact (Int.mul_eq_zero.mp q).resolve_right hg
/-! reduced rows -/
def Off (a b : List Int) : Prop := at0 b (fp a) = 0 ∧ at0 a (fp b) = 0
structure Ech (n : Nat) (f : List (List Int)) : Prop where
  len : ∀ r ∈ f, r.length = n
  nz : ∀ r ∈ f, DL.nz r = true
  off : f.Pairwise Off
theorem Ech.tail {n : Nat} {a : List Int} {f : List (List Int)} (h : Ech n (a :: f)) : Ech n f := ⟨fun r m => h.len r (List.mem_cons_of_mem _ m), fun r m => h.nz r (List.mem_cons_of_mem _ m), (List.pairwise_cons.mp h.off).2⟩
theorem reduce_len {n : Nat} : ∀ {f : List (List Int)} {row : List Int}, (∀ r ∈ f, r.length = n) → row.length = n → (reduce row f).length = n
  | [], row, _, h => h
  | a :: f, row, hf, h => reduce_len (f := f) (row := red1 row a) (fun r m => hf r (List.mem_cons_of_mem _ m)) (red1_len h (hf a List.mem_cons_self))
theorem reduce_keep {n j : Nat} : ∀ {f : List (List Int)} {row : List Int}, (∀ r ∈ f, r.length = n) → (∀ r ∈ f, DL.nz r = true) → (∀ r ∈ f, at0 r j = 0) → row.length = n → at0 row j = 0 → at0 (reduce row f) j = 0
  | [], row, _, _, _, _, h => h
  | a :: f, row, h1, h2, h3, h4, h5 => reduce_keep (f := f) (row := red1 row a) (fun r m => h1 r (List.mem_cons_of_mem _ m)) (fun r m => h2 r (List.mem_cons_of_mem _ m)) (fun r m => h3 r (List.mem_cons_of_mem _ m)) (red1_len h4 (h1 a List.mem_cons_self))
      (red1_keep h4 (h1 a List.mem_cons_self) (h2 a List.mem_cons_self) h5 (h3 a List.mem_cons_self))
theorem reduce_zero {n : Nat} : ∀ {f : List (List Int)} {row : List Int}, Ech n f → row.length = n → ∀ r ∈ f, at0 (reduce row f) (fp r) = 0
  | [], _, _, _, r, m => by cases m
  | a :: f, row, h, hl, r, m => by
    have la := h.len a List.mem_cons_self
    have na := h.nz a List.mem_cons_self
    rcases List.mem_cons.mp m with e | e
    · subst e
      exact reduce_keep (f := f) (row := red1 row r) (fun x k => h.len x (List.mem_cons_of_mem _ k)) (fun x k => h.nz x (List.mem_cons_of_mem _ k)) (fun x k => ((List.pairwise_cons.mp h.off).1 x k).1) (red1_len hl la) (red1_zero hl la na)
    · exact reduce_zero (f := f) (row := red1 row a) h.tail (red1_len hl la) r e
theorem reduce_dot {n : Nat} {w : Nat → Int} : ∀ {f : List (List Int)} {row : List Int}, (∀ r ∈ f, r.length = n) → (∀ r ∈ f, DL.nz r = true) → row.length = n → Ker n f w → (dot n (reduce row f) w = 0 ↔ dot n row w = 0)
  | [], _, _, _, _, _ => Iff.rfl
  | a :: f, row, h1, h2, h3, h4 => by
    have := reduce_dot (f := f) (row := red1 row a) (fun r m => h1 r (List.mem_cons_of_mem _ m)) (fun r m => h2 r (List.mem_cons_of_mem _ m)) (red1_len h3 (h1 a List.mem_cons_self)) (fun r m => h4 r (List.mem_cons_of_mem _ m))
    exact this.trans (red1_dot h3 (h1 a List.mem_cons_self) (h2 a List.mem_cons_self) (h4 a List.mem_cons_self))
/-- a found row cleared by the new one -/
theorem red1_fp {n : Nat} {one row : List Int} (h1 : one.length = n) (h2 : row.length = n) (n1 : DL.nz one = true) (n2 : DL.nz row = true) (hz : at0 row (fp one) = 0) : fp (red1 one row) = fp one ∧ DL.nz (red1 one row) = true := by
  obtain ⟨g, c, d, hg, hc, hd, e⟩ := red1_mul h1 h2 n2
  refine fp_eq (fun z => ?_) fun j hj => ?_
  · have q := e (fp one)
    rw [z, hz] at q
    simp only [Int.zero_mul, Int.mul_zero, Int.sub_zero] at q
    rcases Int.mul_eq_zero.mp q.symm with q | q
    · exact fp_ne n1 q
    · exact hc q
  · have q := e j
    rw [fp_before hj] at q
    rcases Nat.lt_or_ge (fp row) (fp one) with k | k
    · have := (hd (fp_before k)).1
      rw [this] at q
      simp only [Int.zero_mul, Int.mul_zero, Int.sub_zero, Int.sub_self] at q
      exact (Int.mul_eq_zero.mp q).resolve_right hg
    · rw [fp_before (r := row) (by omega)] at q
      simp only [Int.zero_mul, Int.mul_zero, Int.sub_zero, Int.sub_self] at q
      exact (Int.mul_eq_zero.mp q).resolve_right hg
def indep1 (found : List (List Int)) (row : List Int) : List (List Int) :=
  if nz (reduce row found) then found.map (fun one => reduce one [reduce row found]) ++ [reduce row found] else found
def independent (rows : List (List Int)) : List (List Int) := rows.foldl indep1 []
theorem indep1_ech {n : Nat} {f : List (List Int)} {row : List Int} (h : Ech n f) (hl : row.length = n) : Ech n (indep1 f row) := by
  unfold indep1
  split
  · rename_i hn
    have lr := reduce_len h.len hl
    have z := reduce_zero h hl
    have F : ∀ r ∈ f, fp (red1 r (reduce row f)) = fp r ∧ DL.nz (red1 r (reduce row f)) = true := fun r m => red1_fp (h.len r m) lr (h.nz r m) hn (z r m)
    refine ⟨fun r m => ?_, fun r m => ?_, ?_⟩
    · rcases List.mem_append.mp m with k | k
      · obtain ⟨x, hx, rfl⟩ := List.mem_map.mp k
        exact red1_len (h.len x hx) lr
      · rw [List.mem_singleton.mp k]; exact lr
    · rcases List.mem_append.mp m with k | k
      · obtain ⟨x, hx, rfl⟩ := List.mem_map.mp k
        exact (F x hx).2
      · rw [List.mem_singleton.mp k]; exact hn
    · rw [List.pairwise_append]
      refine ⟨?_, List.pairwise_singleton _ _, fun a ha b hb => ?_⟩
      · rw [List.pairwise_map]
        refine List.Pairwise.imp_of_mem (fun {a b} ma mb hab => ?_) h.off
        show Off (red1 a (reduce row f)) (red1 b (reduce row f))
        refine ⟨?_, ?_⟩
        · rw [(F a ma).1]; exact red1_keep (h.len b mb) lr hn hab.1 (z a ma)
        · rw [(F b mb).1]; exact red1_keep (h.len a ma) lr hn hab.2 (z b mb)
      · obtain ⟨x, hx, rfl⟩ := List.mem_map.mp ha
        rw [List.mem_singleton.mp hb]
        refine ⟨?_, red1_zero (h.len x hx) lr hn⟩
        have : fp (reduce x [reduce row f]) = fp x := (F x hx).1
        rw [this]; exact z x hx
  · exact h
theorem indep1_ker {n : Nat} {f : List (List Int)} {row : List Int} (h : Ech n f) (hl : row.length = n) (w : Nat → Int) : Ker n (indep1 f row) w ↔ Ker n f w ∧ dot n row w = 0 := by
  unfold indep1
  split
  · rename_i hn
    have lr := reduce_len h.len hl
    constructor
    · intro k
      have k2 : dot n (reduce row f) w = 0 := k _ (List.mem_append_right _ List.mem_cons_self)
      have k1 : Ker n f w := fun r m => (red1_dot (h.len r m) lr hn k2).mp (k _ (List.mem_append_left _ (List.mem_map_of_mem m)))
      exact ⟨k1, (reduce_dot h.len h.nz hl k1).mp k2⟩
    · rintro ⟨k1, k2⟩ r m
      have k3 := (reduce_dot h.len h.nz hl k1).mpr k2
      rcases List.mem_append.mp m with q | q
      · obtain ⟨x, hx, rfl⟩ := List.mem_map.mp q
        exact (red1_dot (h.len x hx) lr hn k3).mpr (k1 x hx)
      · rw [List.mem_singleton.mp q]; exact k3
  · rename_i hn
    refine ⟨fun k => ⟨k, (reduce_dot h.len h.nz hl k).mp (dot_zero w (zero_of_nz (by simpa using hn)) n)⟩, fun k => k.1⟩
theorem Ech.nil {n : Nat} : Ech n [] := ⟨by simp, by simp, .nil⟩
theorem fold_ech {n : Nat} : ∀ {rows f : List (List Int)}, Ech n f → (∀ r ∈ rows, r.length = n) → Ech n (rows.foldl indep1 f)
  | [], _, h, _ => h
  | a :: rows, f, h, hl => fold_ech (rows := rows) (indep1_ech h (hl a List.mem_cons_self)) fun r m => hl r (List.mem_cons_of_mem _ m)
theorem fold_ker {n : Nat} (w : Nat → Int) : ∀ {rows f : List (List Int)}, Ech n f → (∀ r ∈ rows, r.length = n) → (Ker n (rows.foldl indep1 f) w ↔ Ker n f w ∧ Ker n rows w)
  | [], f, h, _ => ⟨fun k => ⟨k, by simp [Ker]⟩, fun k => k.1⟩
  | a :: rows, f, h, hl => by
    rw [List.foldl_cons, fold_ker w (rows := rows) (indep1_ech h (hl a List.mem_cons_self)) (fun r m => hl r (List.mem_cons_of_mem _ m)), indep1_ker h (hl a List.mem_cons_self)]
    constructor
    · rintro ⟨⟨k1, k2⟩, k3⟩
      refine ⟨k1, fun r m => ?_⟩
      rcases List.mem_cons.mp m with e | e
      · rw [e]; exact k2
      · exact k3 r e
    · rintro ⟨k1, k2⟩
      exact ⟨⟨k1, k2 a List.mem_cons_self⟩, fun r m => k2 r (List.mem_cons_of_mem _ m)⟩
theorem ind_ech {n : Nat} {rows : List (List Int)} (h : ∀ r ∈ rows, r.length = n) : Ech n (independent rows) := fold_ech .nil h
theorem ind_ker {n : Nat} {rows : List (List Int)} (h : ∀ r ∈ rows, r.length = n) (w : Nat → Int) : Ker n (independent rows) w ↔ Ker n rows w := by
  have := fold_ker w (n := n) .nil h
  exact this.trans ⟨fun k => k.2, fun k => ⟨by simp [Ker], k⟩⟩
/-! how many rows -/
theorem Ech.fps {n : Nat} {f : List (List Int)} (h : Ech n f) : (f.map fp).Nodup ∧ ∀ x ∈ f.map fp, x < n := by
  refine ⟨?_, fun x m => ?_⟩
  · rw [List.Nodup, List.pairwise_map]
    exact List.Pairwise.imp_of_mem (fun {a b} ma mb hab e => fp_ne (h.nz b mb) (by rw [← e]; exact hab.1)) h.off
  · obtain ⟨r, hr, rfl⟩ := List.mem_map.mp m
    have := fp_lt (h.nz r hr)
    rw [h.len r hr] at this; exact this
theorem Ech.le {n : Nat} {f : List (List Int)} (h : Ech n f) : f.length ≤ n := by
  have := nodup_len n _ h.fps.1 h.fps.2
  simpa using this
/-- n rows: nothing is left -/
theorem Ech.full {n : Nat} {f : List (List Int)} (h : Ech n f) (hl : f.length = n) {row : List Int} (hr : row.length = n) : DL.nz (reduce row f) = false := by
  have z := reduce_zero h hr
  refine Bool.eq_false_iff.mpr fun q => ?_
  have hlt := fp_lt q
  rw [reduce_len h.len hr] at hlt
  have m := nodup_full h.fps.1 h.fps.2 (by simpa using hl) hlt
  obtain ⟨r, k1, k2⟩ := List.mem_map.mp m
  have := z r k1
  rw [k2] at this
  exact fp_ne q this
end DL

/-! MF: reduced, independent, rank by the program. -/
set_option linter.all false
set_option maxRecDepth 100000
namespace DL
section
variable {S : Store}
theorem foldl_take {α β : Type} (f : β → α → β) (b : β) (l : List α) (j : Nat) {a : α} (h : l[j]? = some a) : (l.take (j + 1)).foldl f b = f ((l.take j).foldl f b) a := by
  obtain ⟨hj, e⟩ := List.getElem?_eq_some_iff.mp h
  rw [List.take_succ_eq_append_getElem hj, List.foldl_append, e]; rfl
theorem fold_len {n : Nat} {row : List Int} : ∀ {l : List (List Int)}, (∀ r ∈ l, r.length = n) → row.length = n → (l.foldl red1 row).length = n := fun {l} h hl => reduce_len (f := l) h hl
theorem fold_bd {i k n : Nat} : ∀ {l : List (List Int)} {row : List Int}, (∀ r ∈ l, r.length = n) → (∀ r ∈ l, ∀ x ∈ r, Bd k x) → row.length = n → (∀ x ∈ row, Bd i x) → ∀ x ∈ l.foldl red1 row, Bd (i + l.length * (k + 1)) x
  | [], row, _, _, _, hb => by simpa using hb
  | a :: l, row, h1, h2, h3, h4 => by
    have := fold_bd (i := i + k + 1) (k := k) (l := l) (row := red1 row a) (fun r m => h1 r (List.mem_cons_of_mem _ m)) (fun r m => h2 r (List.mem_cons_of_mem _ m)) (red1_len h3 (h1 a List.mem_cons_self))
      (red1_bd h3 (h1 a List.mem_cons_self) h4 (h2 a List.mem_cons_self))
    intro x m
    refine (this x m).mono ?_
    rw [List.length_cons, Nat.succ_mul]; omega
theorem m_reduced {i k n : Nat} {row : List Int} {rows : List (List Int)} (h1 : row.length = n) (hn : n ≤ 1000) (h2 : ∀ r ∈ rows, r.length = n) (hz : ∀ r ∈ rows, nz r = true) (hr : ∀ x ∈ row, Bd i x) (hq : ∀ r ∈ rows, ∀ x ∈ r, Bd k x) (hik : i + rows.length * (k + 1) ≤ 9000) :
    F_reduced [eL row, eLL rows] S = .ok (eL (reduce row rows)) S := by
  have es : start 6 [eL row, eLL rows] = [.val (eL row), .val (eLL rows), .non, .non, .non, .non] := rfl
  have ex : ∃ e', turns [] (gName 2) w_reduced_1 (rows.map eL) [.val (eL row), .val (eLL rows), .non, .non, .non, .non] S = .nx e' S ∧
      ∃ ot pl, (pl = .non ∨ ∃ d, pl = .val d) ∧ e' = [.val (eL ((rows.take (0 + rows.length)).foldl red1 row)), .val (eLL rows), ot, pl, .non, .non] := by
    refine turns_at eL (fun j e => ∃ ot pl, (pl = .non ∨ ∃ d, pl = Sl.val d) ∧ e = [.val (eL ((rows.take j).foldl red1 row)), .val (eLL rows), ot, pl, .non, .non]) rows 0 [.val (eL row), .val (eLL rows), .non, .non, .non, .non] ⟨.non, .non, .inl rfl, rfl⟩ ?_
    rintro j e a ha ⟨ot, pl, hpl, rfl⟩
    have hm : a ∈ rows := List.mem_of_getElem? ha
    have hj : j < rows.length := (List.getElem?_eq_some_iff.mp ha).1
    rw [Nat.zero_add]
    have lt : ((rows.take j).foldl red1 row).length = n := fold_len (fun r m => h2 r (List.mem_of_mem_take m)) h1
    have bt : ∀ x ∈ (rows.take j).foldl red1 row, Bd (i + j * (k + 1)) x := by
      have := fold_bd (i := i) (k := k) (l := rows.take j) (row := row) (fun r m => h2 r (List.mem_of_mem_take m)) (fun r m => hq r (List.mem_of_mem_take m)) h1 hr
      rwa [List.length_take, Nat.min_eq_left (by omega)] at this
    have hb : i + j * (k + 1) + k + 1 ≤ 9000 := by
      have : (j + 1) * (k + 1) ≤ rows.length * (k + 1) := Nat.mul_le_mul_right _ hj
      rw [Nat.succ_mul] at this; omega
    refine ⟨_, _, rfl, m_red_turn (eLL rows) pl .non .non lt (h2 a hm) hn (hz a hm) bt (hq a hm) hb hpl (.inl rfl) (.inl rfl), .val (eL a), .val (.int (fp a)), .inr ⟨_, rfl⟩, ?_⟩
    rw [foldl_take red1 row rows j ha]
  obtain ⟨e', h3, ot, pl, hpl, rfl⟩ := ex
  rw [Nat.zero_add, List.take_length] at h3
  simp only [F_reduced, fnOf_ap, es, b_reduced, sSeq_ap, sFor_ap, iSeq_ap, dV_ap, List.getElem?_cons_zero, List.getElem?_cons_succ, bind_ok, srcD_lst, sE_ok]
  rw [h3]
  rfl
/-! sizes of found rows -/
def bitB (k : Nat) : Nat → Nat
  | 0 => 0
  | s + 1 => bitB k s + (k + s * (bitB k s + 1)) + 1
theorem bitB_le {k s : Nat} : ∀ {t : Nat}, s ≤ t → bitB k s ≤ bitB k t
  | 0, h => by rw [Nat.le_zero.mp h]; exact Nat.le_refl _
  | t + 1, h => by
    rcases Nat.lt_or_eq_of_le h with q | q
    · have := bitB_le (k := k) (show s ≤ t by omega)
      show bitB k s ≤ bitB k t + (k + t * (bitB k t + 1)) + 1
      omega
    · rw [q]; exact Nat.le_refl _
theorem indep1_bd {n k : Nat} {f : List (List Int)} {row : List Int} (h : Ech n f) (hl : row.length = n) (hr : ∀ x ∈ row, Bd k x) (hf : ∀ r ∈ f, ∀ x ∈ r, Bd (bitB k f.length) x) : ∀ r ∈ indep1 f row, ∀ x ∈ r, Bd (bitB k (indep1 f row).length) x := by
  unfold indep1
  split
  · rename_i hn
    have lr := reduce_len h.len hl
    have b1 : ∀ x ∈ reduce row f, Bd (k + f.length * (bitB k f.length + 1)) x := fold_bd h.len hf hl hr
    intro r m
    have el : (f.map (fun one => reduce one [reduce row f]) ++ [reduce row f]).length = f.length + 1 := by simp
    rw [el]
    unfold bitB
    rcases List.mem_append.mp m with q | q
    · obtain ⟨y, hy, rfl⟩ := List.mem_map.mp q
      intro x hx
      exact (red1_bd (h.len y hy) lr (hf y hy) b1 x hx)
    · rw [List.mem_singleton.mp q]
      exact fun x hx => (b1 x hx).mono (by omega)
  · exact hf
/-- what independent computes; rows: told by enc -/
theorem m_ind_turn {n k : Nat} {f : List (List Int)} {row : List Int} (h : Ech n f) (hl : row.length = n) (hn : n ≤ 1000) (hr : ∀ x ∈ row, Bd k x) (hf : ∀ r ∈ f, ∀ x ∈ r, Bd (bitB k f.length) x) (hb : bitB k (f.length + 1) ≤ 9000) (T R : D) (o : Sl) (hR : opList R = some (eL row)) (hR2 : ∀ e, look e S R = R) (ho : o = .non ∨ ∃ d, o = .val d) :
    w_independent_1 [.val T, .val (eLL f), .val R, o] S = .nx [.val T, .val (eLL (indep1 f row)), .val (eL (reduce row f)), o] S := by
  have hb' : k + f.length * (bitB k f.length + 1) + bitB k f.length + 1 ≤ 9000 := by unfold bitB at hb; omega
  have r1 := m_reduced (S := S) (i := k) (k := bitB k f.length) hl hn h.len h.nz hr hf (by omega)
  have lr := reduce_len h.len hl
  have b1 : ∀ x ∈ reduce row f, Bd (k + f.length * (bitB k f.length + 1)) x := fold_bd h.len hf hl hr
  have an : opAny (eL (reduce row f)) = some (.bl (nz (reduce row f))) := by rw [opAny_ints]; rfl
  unfold indep1
  by_cases hz : nz (reduce row f) = true
  · rw [if_pos hz]
    rw [hz] at an
    have c1 : c_independent_1 [.val T, .val (eLL f), .val (eL (reduce row f)), o] S = .ok (f.map fun x => eL (reduce x [reduce row f])) [.val T, .val (eLL f), .val (eL (reduce row f)), o] S := by
      refine lLc_map f eL _ (fun a => [.val T, .val (eLL f), .val (eL (reduce row f)), .val (eL a)]) rfl (by have := h.le; omega) (fun a _ => rfl) (fun a m => ?_) (fun a _ => rfl) ?_
      · have r2 := m_reduced (S := S) (i := bitB k f.length) (k := k + f.length * (bitB k f.length + 1)) (row := a) (rows := [reduce row f]) (h.len a m) hn (fun r q => by rw [List.mem_singleton.mp q]; exact lr) (fun r q => by rw [List.mem_singleton.mp q]; exact hz) (hf a m) (fun r q => by rw [List.mem_singleton.mp q]; exact b1) (by simp; omega)
        have r2' : F_reduced [eL a, .lst [eL (reduce row f)]] S = .ok (eL (reduce a [reduce row f])) S := r2
        generalize eL (reduce row f) = Q at r2' ⊢
        generalize eL a = A at r2' ⊢
        simp [r2']
      · rcases ho with rfl | ⟨d, rfl⟩ <;> rfl
    have ap : opAdd (.lst (f.map fun x => eL (reduce x [reduce row f]))) (.lst [eL (reduce row f)]) = some (eLL (f.map (fun one => reduce one [reduce row f]) ++ [reduce row f])) := by
      have : (f.map fun x => eL (reduce x [reduce row f])).length + [eL (reduce row f)].length ≤ 16777216 := by
        have := h.le
        simp; omega
      rw [opAdd_lst, if_pos this]
      simp [eLL, Function.comp_def]
    have lQ : ∀ e, look e S (eL (reduce row f)) = eL (reduce row f) := fun _ => rfl
    generalize eL (reduce row f) = Q at *
    generalize eLL (f.map (fun one => reduce one [reduce row f]) ++ [reduce row f]) = Z at *
    generalize (f.map fun x => eL (reduce x [reduce row f])) = Y at *
    generalize eL row = RR at *
    generalize eLL f = FF at *
    simp [w_independent_1, hR, hR2, r1, an, c1, ap, lQ]
  · have hz' : nz (reduce row f) = false := by simpa using hz
    rw [if_neg hz]
    rw [hz'] at an
    have lQ : ∀ e, look e S (eL (reduce row f)) = eL (reduce row f) := fun _ => rfl
    generalize eL (reduce row f) = Q at *
    generalize eL row = RR at *
    generalize eLL f = FF at *
    simp [w_independent_1, hR, hR2, r1, an, lQ]
/-- .. rows: told by enc -/
theorem m_independent {n k : Nat} {rows : List (List Int)} (h : Rows n k rows) (hn : n ≤ 1000) (hb : bitB k (n + 1) ≤ 9000) (A : D) (enc : List Int → D) (hA : srcD S A = some ⟨rows.map enc, []⟩) (henc : ∀ r, opList (enc r) = some (eL r) ∧ ∀ e, look e S (enc r) = enc r) :
    F_independent [A] S = .ok (eLL (independent rows)) S := by
  have es : start 4 [A] = [.val A, .non, .non, .non] := rfl
  have ex : ∃ e', turns [] (gName 2) w_independent_1 (rows.map enc) [.val A, .val (.lst []), .non, .non] S = .nx e' S ∧
      ∃ ot, e' = [.val A, .val (eLL ((rows.take (0 + rows.length)).foldl indep1 [])), ot, .non] := by
    refine turns_at enc (fun j e => ∃ ot, e = [.val A, .val (eLL ((rows.take j).foldl indep1 [])), ot, .non]) rows 0 [.val A, .val (.lst []), .non, .non] ⟨.non, rfl⟩ ?_
    rintro j e a ha ⟨ot, rfl⟩
    have hm : a ∈ rows := List.mem_of_getElem? ha
    rw [Nat.zero_add]
    have ec : Ech n ((rows.take j).foldl indep1 []) := fold_ech .nil fun r m => h.len r (List.mem_of_mem_take m)
    have bt : ∀ (l f : List (List Int)), (∀ r ∈ l, r.length = n) → (∀ r ∈ l, ∀ x ∈ r, Bd k x) → Ech n f → (∀ r ∈ f, ∀ x ∈ r, Bd (bitB k f.length) x) → ∀ r ∈ l.foldl indep1 f, ∀ x ∈ r, Bd (bitB k (l.foldl indep1 f).length) x := by
      intro l
      induction l with
      | nil => intro f _ _ _ hf; exact hf
      | cons b l il => intro f q1 q2 q3 q4; exact il (indep1 f b) (fun r m => q1 r (List.mem_cons_of_mem _ m)) (fun r m => q2 r (List.mem_cons_of_mem _ m)) (indep1_ech q3 (q1 b List.mem_cons_self)) (indep1_bd q3 (q1 b List.mem_cons_self) (q2 b List.mem_cons_self) q4)
    have bf := bt (rows.take j) [] (fun r m => h.len r (List.mem_of_mem_take m)) (fun r m => h.bd r (List.mem_of_mem_take m)) .nil (by simp)
    have hb' : bitB k (((rows.take j).foldl indep1 []).length + 1) ≤ 9000 := Nat.le_trans (bitB_le (by have := ec.le; omega)) hb
    refine ⟨_, _, rfl, m_ind_turn ec (h.len a hm) hn (h.bd a hm) bf hb' A (enc a) .non (henc a).1 (henc a).2 (.inl rfl), .val (eL (reduce a ((rows.take j).foldl indep1 []))), ?_⟩
    rw [foldl_take indep1 [] rows j ha]
  obtain ⟨e', h3, ot, rfl⟩ := ex
  rw [Nat.zero_add, List.take_length] at h3
  simp only [F_independent, fnOf_ap, es, b_independent, sSeq_ap, sAsg_ap, dFz_ap, aNil_ap, bind_ok, sE_ok, gName_ap, List.set_cons_succ, List.set_cons_zero, sFor_ap, iSeq_ap, dV_ap, List.getElem?_cons_zero, hA]
  rw [h3]
  rfl
theorem enc_T (r : List Int) : opList (eT r) = some (eL r) ∧ ∀ e, look e S (eT r) = eT r := ⟨rfl, fun _ => rfl⟩
theorem enc_L (r : List Int) : opList (eL r) = some (eL r) ∧ ∀ e, look e S (eL r) = eL r := ⟨rfl, fun _ => rfl⟩
theorem m_rank {n k : Nat} {rows : List (List Int)} (h : Rows n k rows) (hn : n ≤ 1000) (hb : bitB k (n + 1) ≤ 9000) (A : D) (enc : List Int → D) (hA : srcD S A = some ⟨rows.map enc, []⟩) (henc : ∀ r, opList (enc r) = some (eL r) ∧ ∀ e, look e S (enc r) = enc r) :
    F_rank [A] S = .ok (.int ((independent rows).length : Nat)) S := by
  have h1 := m_independent h hn hb A enc hA henc
  have e : opLen (eLL (independent rows)) = some (.int ((independent rows).length : Nat)) := by simp
  have lk : ∀ e, look e S (eLL (independent rows)) = eLL (independent rows) := fun _ => rfl
  generalize eLL (independent rows) = Q at *
  simp [F_rank, b_rank, h1, e, lk]
/-- do the rows settle n things -/
def settledB (n : Nat) (p : List (List Int)) : Bool := (independent p).length == n
theorem m_does_settle {n k : Nat} {p : List (List Int)} (h : Rows n k p) (hp : p ≠ []) (hn : n ≤ 1000) (hb : bitB k (n + 1) ≤ 9000) : F_does_settle [eTT p] S = .ok (.bl (settledB n p)) S := by
  have h1 := m_rank (S := S) h hn hb (eTT p) eT rfl enc_T
  have ix : ∃ r, opIx (eTT p) (.int 0) = some (eT r) ∧ r.length = n := by
    cases p with
    | nil => exact (hp rfl).elim
    | cons r q => exact ⟨r, rfl, h.len r List.mem_cons_self⟩
  obtain ⟨r, i1, i2⟩ := ix
  have el : opLen (eT r) = some (.int (n : Nat)) := by simp [i2]
  have l1 : ∀ e, look e S (eTT p) = eTT p := fun _ => rfl
  have l2 : ∀ e, look e S (eT r) = eT r := fun _ => rfl
  generalize eTT p = A at *
  generalize eT r = R at *
  simp [F_does_settle, b_does_settle, h1, i1, el, l1, l2, settledB]
theorem plan_bits {n : Nat} (h : n ≤ 4) : bitB 1 (n + 1) ≤ 9000 := by
  have : ∀ m : Fin 5, bitB 1 (m.val + 1) ≤ 9000 := by decide
  exact this ⟨n, by omega⟩
theorem m_settle {n : Nat} {p : List (List Int)} (h : IsPlan n p) : F_does_settle [eTT p] S = .ok (.bl (settledB n p)) S := m_does_settle h.rows h.ne (by have := h.n4; omega) (plan_bits h.n4)
theorem m_settles {n : Nat} {p : List (List Int)} (h : IsPlan n p) : F_settles [eTT p] S = .ok (.bl (settledB n p)) S := by
  have h1 := m_check_plan (S := S) h
  have h2 := m_settle (S := S) h
  generalize eTT p = A at *
  simp [F_settles, b_settles, h1, h2]
theorem m_check_settled {n : Nat} {p : List (List Int)} (h : IsPlan n p) (hs : settledB n p = true) : F_check_settled [eTT p] S = .ok .non S := by
  have h1 := m_check_plan (S := S) h
  have h2 := m_settle (S := S) h
  rw [hs] at h2
  generalize eTT p = A at *
  simp [F_check_settled, b_check_settled, h1, h2]
end
end DL

/-! MG: ties. -/
set_option linter.all false
set_option maxRecDepth 100000
namespace DL
section
variable {S : Store}
theorem sum_bd {k : Nat} : ∀ (l : List Int), (∀ x ∈ l, x.natAbs ≤ k) → (l.sum).natAbs ≤ l.length * k
  | [], _ => by simp
  | x :: l, h => by
    have ih := sum_bd l fun y m => h y (List.mem_cons_of_mem _ m)
    have hx := h x List.mem_cons_self
    rw [List.sum_cons, List.length_cons, Nat.succ_mul]
    have := Int.natAbs_add_le x l.sum
    omega
theorem gram_len (n : Nat) (p : List (List Int)) : (gram n p).length = n := by simp [gram]
theorem gram_rows {n : Nat} {p : List (List Int)} (h : IsPlan n p) : Rows n 4 (gram n p) := by
  refine ⟨fun r m => ?_, fun r m x hx => ?_⟩
  · obtain ⟨i, _, rfl⟩ := List.mem_map.mp m
    simp
  · obtain ⟨i, _, rfl⟩ := List.mem_map.mp m
    obtain ⟨j, _, rfl⟩ := List.mem_map.mp hx
    have := sum_bd (k := 1) (p.map fun r => at0 r i * at0 r j) fun y hy => by
      obtain ⟨r, hr, rfl⟩ := List.mem_map.mp hy
      have b : ∀ t, (at0 r t).natAbs ≤ 1 := fun t => by
        have := Bd.getD (k := 1) (fun x m => h.rows.bd r hr x m) t
        unfold Bd at this; omega
      rw [Int.natAbs_mul]
      exact Nat.mul_le_mul (b i) (b j)
    rw [List.length_map, Nat.mul_one] at this
    have := h.p8
    unfold Bd; omega
theorem Rows.cross {n k i j : Nat} {t : List (List Int)} (h : Rows (n + 1) k t) (hj : j < n + 1) : Rows n k (cross t i j) := by
  have h' : Rows (n + 1) k (t.eraseIdx i) := ⟨fun r m => h.len r (List.mem_of_mem_eraseIdx m), fun r m => h.bd r (List.mem_of_mem_eraseIdx m)⟩
  exact h'.erase hj
theorem cross_len {n i j : Nat} {t : List (List Int)} (ht : t.length = n + 1) (hi : i < n + 1) : (DL.cross t i j).length = n := by
  unfold DL.cross
  rw [List.length_map, List.length_eraseIdx_of_lt (by omega), ht]; rfl
/-- one tie -/
def tie (n : Nat) (G : List (List Int)) (i j : Nat) : Int × Int := frac (if (i + j) % 2 = 0 then det (n - 1) (cross G j i) else -det (n - 1) (cross G j i)) (det n G)
def tieRows (n : Nat) (G : List (List Int)) : List D := (List.range n).map fun i => .tup ((List.range n).map fun j => eF (tie n G i j))
theorem range_map_succ {α : Type} (f : Nat → α) (j : Nat) : (List.range (j + 1)).map f = (List.range j).map f ++ [f j] := by
  rw [List.range_succ, List.map_append]; rfl
theorem range_get {n j a : Nat} (h : (List.range n)[j]? = some a) : a = j ∧ j < n := by
  obtain ⟨h1, h2⟩ := List.getElem?_eq_some_iff.mp h
  simp at h1 h2
  exact ⟨h2.symm, h1⟩
theorem tie_turn {n : Nat} {G : List (List Int)} (hG : Rows (n + 1) 4 G) (lG : G.length = n + 1) (hn : n + 1 ≤ 4) (h0 : det (n + 1) G ≠ 0) (p : D) (t : Sl) (F R : List D) (i j : Nat) (hi : i < n + 1) (hj : j < n + 1) (hR : R.length ≤ 1000) (z : Sl) :
    w_found_ties_1 [.val p, .val (eLL G), .val (.int (det (n + 1) G)), t, .own F, .val (.int i), .own R, .val (.int j), z] S =
      .nx [.val p, .val (eLL G), .val (.int (det (n + 1) G)), t, .own F, .val (.int i), .own (R ++ [eF (tie (n + 1) G i j)]), .val (.int j), .val (.int (det n (cross G j i)))] S := by
  have c1 := m_without_cross (S := S) hG (by omega) (by omega) j i
  obtain ⟨d1, d2⟩ := m_determinant (S := S) (k := 4) (n := n) (by omega) (t := cross G j i) (by omega) (cross_len lG hj) (hG.cross hi)
  obtain ⟨_, d4⟩ := m_determinant (S := S) (k := 4) (n := n + 1) (by omega) (t := G) (by omega) lG hG
  have f1 := fun t => m_fraction (S := S) t (det (n + 1) G) h0 (d4.mono (by omega))
  obtain ⟨M, e2, e3⟩ : ∃ M : Int, opMod (.int ((i : Int) + (j : Int))) (.int 2) = some (.int M) ∧ opEq (.int M) (.int 0) = some (.bl (decide ((i + j) % 2 = 0))) := by
    refine ⟨(((i + j) % 2 : Nat) : Int), ?_, ?_⟩
    · have : opMod (.int ((i : Int) + (j : Int))) (.int 2) = some (.int (((i + j : Nat) : Int).fmod 2)) := by
        show some (D.int (((i : Int) + (j : Int)).fmod 2)) = _
        rw [Int.natCast_add]
      rw [this, show (2 : Int) = ((2 : Nat) : Int) from rfl, fmod_nat]
    · rw [opEq_int]
      have : ((((i + j) % 2 : Nat) : Int) == 0) = decide ((i + j) % 2 = 0) := by
        rw [Bool.eq_iff_iff, beq_iff_eq, decide_eq_true_eq]; omega
      rw [this]
  unfold tie
  rw [Nat.add_sub_cancel]
  have lk : ∀ e, look e S (eLL (cross G j i)) = eLL (cross G j i) := fun _ => rfl
  have hR' : R.length < 16777216 := by omega
  generalize det n (cross G j i) = dd at *
  generalize det (n + 1) G = ww at *
  generalize eLL (cross G j i) = C at *
  generalize eLL G = GG at *
  by_cases c : (i + j) % 2 = 0
  · rw [if_pos c]
    rw [decide_eq_true c] at e3
    have f1' := f1 dd
    generalize eF (frac dd ww) = Z at *
    simp [-opMod_int, -opEq_int, w_found_ties_1, c1, d1, e2, e3, f1', pushAt, hR']
  · rw [if_neg c]
    rw [decide_eq_false c] at e3
    have f1' := f1 (-dd)
    generalize eF (frac (-dd) ww) = Z at *
    simp [-opMod_int, -opEq_int, w_found_ties_1, c1, d1, e2, e3, f1', pushAt, hR']
theorem m_found_ties {n : Nat} {p : List (List Int)} (h : IsPlan (n + 1) p) (h0 : det (n + 1) (gram (n + 1) p) ≠ 0) : F_found_ties [eTT p] S = .ok (.lst (tieRows (n + 1) (gram (n + 1) p))) S := by
  have hn := h.n4
  obtain ⟨r0, r1, r2, r3⟩ := h.at0
  have g1 := m_square_of (S := S) h.rows r1 (by omega) (by omega) (by have := h.p8; omega)
  have hG := gram_rows h
  have lG := gram_len (n + 1) p
  obtain ⟨d1, d2⟩ := m_determinant (S := S) (k := 4) (n := n + 1) (by omega) (t := gram (n + 1) p) (by omega) lG hG
  have es : start 9 [eTT p] = [.val (eTT p), .non, .non, .non, .non, .non, .non, .non, .non] := rfl
  have el : opLen (eLL (gram (n + 1) p)) = some (.int ((n + 1 : Nat) : Int)) := by rw [opLen_lst, List.length_map, lG]
  -- the inner loop
  have inner : ∀ (F : List D) (i : Nat) (a b : Sl), i < n + 1 → ∃ a' b', turns [] (gName 7) w_found_ties_1 ((List.range (n + 1)).map fun j : Nat => D.int j) [.val (eTT p), .val (eLL (gram (n + 1) p)), .val (.int (det (n + 1) (gram (n + 1) p))), .val (.int ((n + 1 : Nat) : Int)), .own F, .val (.int i), .own [], a, b] S =
      .nx [.val (eTT p), .val (eLL (gram (n + 1) p)), .val (.int (det (n + 1) (gram (n + 1) p))), .val (.int ((n + 1 : Nat) : Int)), .own F, .val (.int i), .own ((List.range (n + 1)).map fun j => eF (tie (n + 1) (gram (n + 1) p) i j)), a', b'] S := by
    intro F i a b hi
    obtain ⟨e', h1, a', b', rfl⟩ := turns_at (S := S) (g := gName 7) (body := w_found_ties_1) (fun j : Nat => D.int j) (fun j e => ∃ a b, e = [.val (eTT p), .val (eLL (gram (n + 1) p)), .val (.int (det (n + 1) (gram (n + 1) p))), .val (.int ((n + 1 : Nat) : Int)), .own F, .val (.int i), .own ((List.range j).map fun j => eF (tie (n + 1) (gram (n + 1) p) i j)), a, b])
      (List.range (n + 1)) 0 [.val (eTT p), .val (eLL (gram (n + 1) p)), .val (.int (det (n + 1) (gram (n + 1) p))), .val (.int ((n + 1 : Nat) : Int)), .own F, .val (.int i), .own [], a, b] ⟨a, b, rfl⟩ (by
        rintro j e x hx ⟨a, b, rfl⟩
        obtain ⟨rfl, hj⟩ := range_get hx
        rw [Nat.zero_add]
        refine ⟨_, _, rfl, tie_turn hG lG hn h0 _ _ F _ i x hi hj (by simp; omega) b, .val (.int x), .val (.int (det n (cross (gram (n + 1) p) x i))), ?_⟩
        rw [range_map_succ])
    rw [Nat.zero_add, List.length_range] at h1
    exact ⟨a', b', h1⟩
  have outer : ∃ e', turns [] (gName 5) w_found_ties_2 ((List.range (n + 1)).map fun j : Nat => D.int j) [.val (eTT p), .val (eLL (gram (n + 1) p)), .val (.int (det (n + 1) (gram (n + 1) p))), .val (.int ((n + 1 : Nat) : Int)), .own [], .non, .non, .non, .non] S = .nx e' S ∧
      ∃ a b c d, e' = [.val (eTT p), .val (eLL (gram (n + 1) p)), .val (.int (det (n + 1) (gram (n + 1) p))), .val (.int ((n + 1 : Nat) : Int)), .own ((List.range (0 + (List.range (n + 1)).length)).map fun i => .tup ((List.range (n + 1)).map fun j => eF (tie (n + 1) (gram (n + 1) p) i j))), a, b, c, d] := by
    refine turns_at (fun j : Nat => D.int j) (fun j e => ∃ a b c d, e = [.val (eTT p), .val (eLL (gram (n + 1) p)), .val (.int (det (n + 1) (gram (n + 1) p))), .val (.int ((n + 1 : Nat) : Int)), .own ((List.range j).map fun i => .tup ((List.range (n + 1)).map fun j => eF (tie (n + 1) (gram (n + 1) p) i j))), a, b, c, d])
      (List.range (n + 1)) 0 [.val (eTT p), .val (eLL (gram (n + 1) p)), .val (.int (det (n + 1) (gram (n + 1) p))), .val (.int ((n + 1 : Nat) : Int)), .own [], .non, .non, .non, .non] ⟨.non, .non, .non, .non, rfl⟩ ?_
    rintro i e x hx ⟨a, b, c, d, rfl⟩
    obtain ⟨rfl, hi⟩ := range_get hx
    rw [Nat.zero_add]
    obtain ⟨a', b', h1⟩ := inner ((List.range x).map fun i => .tup ((List.range (n + 1)).map fun j => eF (tie (n + 1) (gram (n + 1) p) i j))) x c d hi
    refine ⟨_, [.val (eTT p), .val (eLL (gram (n + 1) p)), .val (.int (det (n + 1) (gram (n + 1) p))), .val (.int ((n + 1 : Nat) : Int)), .own ((List.range x).map (fun i => D.tup ((List.range (n + 1)).map fun j => eF (tie (n + 1) (gram (n + 1) p) i j))) ++ [D.tup ((List.range (n + 1)).map fun j => eF (tie (n + 1) (gram (n + 1) p) x j))]), .val (.int x), .own ((List.range (n + 1)).map fun j => eF (tie (n + 1) (gram (n + 1) p) x j)), a', b'], rfl, ?_, .val (.int x), .own ((List.range (n + 1)).map fun j => eF (tie (n + 1) (gram (n + 1) p) x j)), a', b', by rw [range_map_succ _ x]⟩
    have hl : ((List.range x).map (fun i => D.tup ((List.range (n + 1)).map fun j => eF (tie (n + 1) (gram (n + 1) p) i j)))).length < 16777216 := by
      rw [List.length_map, List.length_range]; exact Nat.lt_of_lt_of_le (show x < 5 by omega) (by decide)
    have hr := hit_rng (S := S) (f := dV 3) (n := n + 1) (e := [.val (eTT p), .val (eLL (gram (n + 1) p)), .val (.int (det (n + 1) (gram (n + 1) p))), .val (.int ((n + 1 : Nat) : Int)), .own ((List.range x).map (fun i => D.tup ((List.range (n + 1)).map fun j => eF (tie (n + 1) (gram (n + 1) p) i j)))), .val (.int x), .own [], c, d]) rfl (by omega)
    generalize ((List.range x).map (fun i => D.tup ((List.range (n + 1)).map fun j => eF (tie (n + 1) (gram (n + 1) p) i j)))) = F at *
    generalize ((List.range (n + 1)).map fun j => eF (tie (n + 1) (gram (n + 1) p) x j)) = R at *
    simp only [w_found_ties_2, sSeq_ap, sOwn_ap, aNil_ap, sE_ok, List.set_cons_succ, List.set_cons_zero, sFor_ap, gName_ap]
    rw [hr]
    simp only [sE_ok]
    rw [h1]
    simp only [sDrop_ap, dApp_ap, dO_ap, List.getElem?_cons_succ, List.getElem?_cons_zero, bind_ok, look_loc, dB1_ap, opTuple_lst, pushAt, if_pos hl, sE_ok, List.set_cons_succ, List.set_cons_zero]
  obtain ⟨e', h1, a, b, c, d, rfl⟩ := outer
  rw [Nat.zero_add, List.length_range] at h1
  have hr := hit_rng (S := S) (f := dV 3) (n := n + 1) (e := [.val (eTT p), .val (eLL (gram (n + 1) p)), .val (.int (det (n + 1) (gram (n + 1) p))), .val (.int ((n + 1 : Nat) : Int)), .own [], .non, .non, .non, .non]) rfl (by omega)
  unfold tieRows
  generalize ((List.range (n + 1)).map fun i => D.tup ((List.range (n + 1)).map fun j => eF (tie (n + 1) (gram (n + 1) p) i j))) = Z at *
  have lk : ∀ e, look e S (eLL (gram (n + 1) p)) = eLL (gram (n + 1) p) := fun _ => rfl
  generalize eLL (gram (n + 1) p) = GG at *
  generalize eTT p = PP at *
  generalize det (n + 1) (gram (n + 1) p) = ww at *
  simp only [F_found_ties, fnOf_ap, es, b_found_ties, sSeq_ap, sAsg_ap, dCall_ap, aCons_ap, aNil_ap, dV_ap, List.getElem?_cons_zero, List.getElem?_cons_succ, bind_ok, g1, sE_ok, gName_ap, List.set_cons_succ, List.set_cons_zero, sPar2_ap, d1, dB1_ap, lk, el, sOwn_ap, sFor_ap]
  rw [hr]
  simp only [sE_ok]
  rw [h1]
  simp
end
end DL

/-! MH: comprehensions of two clauses; values of plans. -/
set_option linter.all false
set_option maxRecDepth 100000
namespace DL
section
variable {S : Store} {α β : Type} {vs vs1 : List Nat} {g g1 : GM} {t1 : BM} {f : EM} {it it1 : IM} {e : Env}
theorem lcT1_ok {enc : β → D} {p : β → Bool} {r : β → D} {e1 : β → Env} : ∀ (xs : List β) (acc : List D), acc.length + xs.length ≤ 16777216 →
    (∀ a ∈ xs, g1 (enc a) e S = .nx (e1 a) S) → (∀ a ∈ xs, t1 (e1 a) S = .ok (p a) (e1 a) S) → (∀ a ∈ xs, p a = true → f (e1 a) S = .ok (r a) (e1 a) S) → (∀ a ∈ xs, wipes vs (e1 a) = e) →
    lcT1 [] vs g1 t1 f (xs.map enc) acc e S = .ok (acc ++ (xs.filter p).map r) e S
  | [], acc, _, _, _, _, _ => by simp [lcT1]
  | a :: xs, acc, hl, hg, ht, hf, hw => by
    rw [List.length_cons] at hl
    have ih := fun acc hl => lcT1_ok (p := p) (r := r) xs acc hl (fun a m => hg a (List.mem_cons_of_mem _ m)) (fun a m => ht a (List.mem_cons_of_mem _ m)) (fun a m => hf a (List.mem_cons_of_mem _ m)) (fun a m => hw a (List.mem_cons_of_mem _ m))
    have m0 : a ∈ a :: xs := List.mem_cons_self
    rw [List.map_cons, lcT1]
    simp only [still_nil, if_true, hg a m0, ht a m0]
    cases hp : p a with
    | true =>
      have h1 : acc.length < 16777216 := by omega
      simp only [if_true, hf a m0 hp, hw a m0, if_pos h1, ih (acc ++ [r a]) (by rw [List.length_append, List.length_singleton]; omega)]; simp [hp]
    | false => simp only [Bool.false_eq_true, if_false, hw a m0, ih acc (by omega)]; simp [hp]
theorem lcT2_ok {enc : α → D} {enc1 : β → D} {ys : α → List β} {q : α → β → Bool} {r : α → β → D} {e1 : α → Env} {e2 : α → β → Env} : ∀ (xs : List α) (acc : List D), acc.length + (xs.flatMap ys).length ≤ 16777216 →
    (∀ a ∈ xs, g (enc a) e S = .nx (e1 a) S) → (∀ a ∈ xs, it1 (e1 a) S = .ok ⟨(ys a).map enc1, []⟩ (e1 a) S) → (∀ a ∈ xs, ∀ b ∈ ys a, g1 (enc1 b) (wipes vs1 (e1 a)) S = .nx (e2 a b) S) → (∀ a ∈ xs, ∀ b ∈ ys a, t1 (e2 a b) S = .ok (q a b) (e2 a b) S) →
    (∀ a ∈ xs, ∀ b ∈ ys a, q a b = true → f (e2 a b) S = .ok (r a b) (e2 a b) S) → (∀ a ∈ xs, ∀ b ∈ ys a, wipes vs1 (e2 a b) = wipes vs1 (e1 a)) → (∀ a ∈ xs, wipes vs (wipes vs1 (e1 a)) = e) →
    lcT2 [] vs vs1 g bTrue it1 g1 t1 f (xs.map enc) acc e S = .ok (acc ++ xs.flatMap fun a => ((ys a).filter (q a)).map (r a)) e S
  | [], acc, _, _, _, _, _, _, _, _ => by simp [lcT2]
  | a :: xs, acc, hl, hg, hi, hg1, ht, hf, hw1, hw => by
    rw [List.flatMap_cons, List.length_append] at hl
    have m0 : a ∈ a :: xs := List.mem_cons_self
    have lf : ((ys a).filter (q a)).length ≤ (ys a).length := List.length_filter_le ..
    have ih := lcT2_ok (q := q) (r := r) xs (acc ++ ((ys a).filter (q a)).map (r a)) (by rw [List.length_append, List.length_map]; omega) (fun a m => hg a (List.mem_cons_of_mem _ m)) (fun a m => hi a (List.mem_cons_of_mem _ m)) (fun a m => hg1 a (List.mem_cons_of_mem _ m)) (fun a m => ht a (List.mem_cons_of_mem _ m)) (fun a m => hf a (List.mem_cons_of_mem _ m)) (fun a m => hw1 a (List.mem_cons_of_mem _ m)) (fun a m => hw a (List.mem_cons_of_mem _ m))
    have h1 := lcT1_ok (S := S) (vs := vs1) (g1 := g1) (t1 := t1) (f := f) (ys a) acc (by omega) (hg1 a m0) (ht a m0) (hf a m0) (hw1 a m0)
    rw [List.map_cons, lcT2]
    simp only [still_nil, if_true, hg a m0, bTrue_ap, hi a m0, h1, hw a m0, ih]
    simp
theorem lLc2_ok (xs : List α) (enc : α → D) (ys : α → List β) (enc1 : β → D) (q : α → β → Bool) (r : α → β → D) (e1 : α → Env) (e2 : α → β → Env) (hit : it e S = .ok ⟨xs.map enc, []⟩ e S) (hl : (xs.flatMap ys).length ≤ 16777216)
    (hg : ∀ a ∈ xs, g (enc a) (wipes vs e) S = .nx (e1 a) S) (hi : ∀ a ∈ xs, it1 (e1 a) S = .ok ⟨(ys a).map enc1, []⟩ (e1 a) S) (hg1 : ∀ a ∈ xs, ∀ b ∈ ys a, g1 (enc1 b) (wipes vs1 (e1 a)) S = .nx (e2 a b) S) (ht : ∀ a ∈ xs, ∀ b ∈ ys a, t1 (e2 a b) S = .ok (q a b) (e2 a b) S)
    (hf : ∀ a ∈ xs, ∀ b ∈ ys a, q a b = true → f (e2 a b) S = .ok (r a b) (e2 a b) S) (hw1 : ∀ a ∈ xs, ∀ b ∈ ys a, wipes vs1 (e2 a b) = wipes vs1 (e1 a)) (hw : ∀ a ∈ xs, wipes vs (wipes vs1 (e1 a)) = wipes vs e) (hu : unwipe e vs (wipes vs e) = e) :
    lLc2 vs vs1 it g bTrue it1 g1 t1 f e S = .ok (xs.flatMap fun a => ((ys a).filter (q a)).map (r a)) e S := by
  unfold lLc2
  rw [hit]
  simp only [bind_ok]
  rw [lcT2_ok xs [] (by simpa using hl) hg hi hg1 ht hf hw1 hw]
  simp [hu]
end
section
variable {S : Store}
/-! values -/
inductive Goal where | sum | worst | whole
def gD : Goal → D
  | .sum => .str [115, 117, 109]
  | .worst => .str [119, 111, 114, 115, 116]
  | .whole => .str [119, 104, 111, 108, 101]
def parts (n : Nat) (G : List (List Int)) : List Int := (List.range n).map fun k => det (n - 1) (cross G k k)
def maxL : List Int → Int
  | [] => 0
  | x :: xs => xs.foldl (fun a b => if a < b then b else a) x
def valueOf (n : Nat) (p : List (List Int)) (g : Goal) : Option (Int × Int) :=
  let G := gram n p
  let w := det n G
  if w = 0 then none else some (match g with
    | .whole => frac 1 w
    | .sum => frac (parts n G).sum w
    | .worst => frac (maxL (parts n G)) w)
def eO : Option (Int × Int) → D
  | none => .non
  | some p => eF p
theorem m_value_of {n : Nat} {p : List (List Int)} (h : IsPlan (n + 1) p) (g : Goal) : F_value_of [eTT p, gD g] S = .ok (eO (valueOf (n + 1) p g)) S := by
  have hn := h.n4
  obtain ⟨r0, r1, r2, r3⟩ := h.at0
  have g1 := m_square_of (S := S) h.rows r1 (by omega) (by omega) (by have := h.p8; omega)
  have hG := gram_rows h
  have lG := gram_len (n + 1) p
  obtain ⟨d1, d2⟩ := m_determinant (S := S) (k := 4) (n := n + 1) (by omega) (t := gram (n + 1) p) (by omega) lG hG
  have es : start 6 [eTT p, gD g] = [.val (eTT p), .val (gD g), .non, .non, .non, .non] := rfl
  have el : opLen (eLL (gram (n + 1) p)) = some (.int ((n + 1 : Nat) : Int)) := by rw [opLen_lst, List.length_map, lG]
  have c1 : c_value_of_1 [.val (eTT p), .val (gD g), .val (eLL (gram (n + 1) p)), .val (.int (det (n + 1) (gram (n + 1) p))), .non, .non] S = .ok ((parts (n + 1) (gram (n + 1) p)).map .int) [.val (eTT p), .val (gD g), .val (eLL (gram (n + 1) p)), .val (.int (det (n + 1) (gram (n + 1) p))), .non, .non] S := by
    unfold parts
    rw [List.map_map]
    refine lLc_map (List.range (n + 1)) (fun j : Nat => D.int j) _ (fun k => [.val (eTT p), .val (gD g), .val (eLL (gram (n + 1) p)), .val (.int (det (n + 1) (gram (n + 1) p))), .non, .val (.int k)]) (hit_rng (n := n + 1) (by simp [lG]) (by omega)) (by simp; omega) (fun a _ => rfl) (fun k m => ?_) (fun a _ => rfl) rfl
    have hk := List.mem_range.mp m
    have w1 := m_without_cross (S := S) hG (by omega) (by omega) k k
    obtain ⟨w2, _⟩ := m_determinant (S := S) (k := 4) (n := n) (by omega) (t := cross (gram (n + 1) p) k k) (by omega) (cross_len lG hk) (hG.cross hk)
    have lk : ∀ e, look e S (eLL (gram (n + 1) p)) = eLL (gram (n + 1) p) := fun _ => rfl
    rw [Function.comp_apply, Nat.add_sub_cancel]
    generalize det n (cross (gram (n + 1) p) k k) = dd at *
    generalize eLL (cross (gram (n + 1) p) k k) = C at *
    generalize eLL (gram (n + 1) p) = GG at *
    simp [w1, w2]
  have f1 := fun t (h0 : det (n + 1) (gram (n + 1) p) ≠ 0) => m_fraction (S := S) t (det (n + 1) (gram (n + 1) p)) h0 (d2.mono (by omega))
  have os : opSum (.lst ((parts (n + 1) (gram (n + 1) p)).map .int)) = some (.int (parts (n + 1) (gram (n + 1) p)).sum) := opSum_ints
  have om : opMax (.lst ((parts (n + 1) (gram (n + 1) p)).map .int)) = some (.int (maxL (parts (n + 1) (gram (n + 1) p)))) := by
    unfold opMax
    dsimp only
    rw [allInts_map]
    have : parts (n + 1) (gram (n + 1) p) ≠ [] := by simp [parts]
    cases hq : parts (n + 1) (gram (n + 1) p) with
    | nil => exact (this hq).elim
    | cons x xs => rfl
  unfold valueOf
  dsimp only
  have lk : ∀ e, look e S (eLL (gram (n + 1) p)) = eLL (gram (n + 1) p) := fun _ => rfl
  generalize eLL (gram (n + 1) p) = GG at *
  generalize (parts (n + 1) (gram (n + 1) p)) = ps at *
  generalize eTT p = PP at *
  generalize det (n + 1) (gram (n + 1) p) = ww at *
  generalize ps.map D.int = dps at *
  by_cases h0 : ww = 0
  · subst h0
    rw [if_pos rfl]
    simp [F_value_of, b_value_of, g1, d1, eO]
  · rw [if_neg h0]
    have hb : (ww == 0) = false := by simpa using h0
    have q1 := f1 1 h0
    have q2 := f1 ps.sum h0
    have q3 := f1 (maxL ps) h0
    cases g with
    | whole =>
      simp only [eO]
      generalize eF (frac 1 ww) = Z at *
      have e1 : opEq (.str [119, 104, 111, 108, 101]) (.str [119, 104, 111, 108, 101]) = some (.bl true) := rfl
      simp [F_value_of, b_value_of, g1, d1, hb, gD, e1, q1]
    | sum =>
      simp only [eO]
      generalize eF (frac ps.sum ww) = Z at *
      have e1 : opEq (.str [115, 117, 109]) (.str [119, 104, 111, 108, 101]) = some (.bl false) := rfl
      have e2 : opEq (.str [115, 117, 109]) (.str [115, 117, 109]) = some (.bl true) := rfl
      simp only [gD] at c1
      simp [F_value_of, b_value_of, g1, d1, hb, gD, e1, e2, q2, c1, os]
    | worst =>
      simp only [eO]
      generalize eF (frac (maxL ps) ww) = Z at *
      have e1 : opEq (.str [119, 111, 114, 115, 116]) (.str [119, 104, 111, 108, 101]) = some (.bl false) := rfl
      have e2 : opEq (.str [119, 111, 114, 115, 116]) (.str [115, 117, 109]) = some (.bl false) := rfl
      simp only [gD] at c1
      simp [F_value_of, b_value_of, g1, d1, hb, gD, e1, e2, q3, c1, om]
theorem m_ties {n : Nat} {p : List (List Int)} (h : IsPlan (n + 1) p) (hs : settledB (n + 1) p = true) (h0 : det (n + 1) (gram (n + 1) p) ≠ 0) : F_ties [eTT p] S = .ok (.tup (tieRows (n + 1) (gram (n + 1) p))) S := by
  have h1 := m_check_settled (S := S) h hs
  have h2 := m_found_ties (S := S) h h0
  generalize tieRows (n + 1) (gram (n + 1) p) = Z at *
  generalize eTT p = PP at *
  simp [F_ties, b_ties, h1, h2]
end
end DL

/-! MI: the best plan. -/
set_option linter.all false
set_option maxRecDepth 100000
namespace DL
section
variable {S : Store}
abbrev eN (r : List Nat) : D := .tup (r.map fun (k : Nat) => D.int (k : Int))
def idxStep (c : Nat) (rows : List (List Nat)) : List (List Nat) := rows.flatMap fun r => ((List.range c).filter fun k => r.isEmpty || decide (r.getLastD 0 ≤ k)).map fun k => r ++ [k]
def idxRows (c : Nat) : Nat → List (List Nat)
  | 0 => [[]]
  | m + 1 => idxStep c (idxRows c m)
theorem okds_N : ∀ r : List Nat, okds 8 (r.map fun (k : Nat) => D.int (k : Int)) = true
  | [] => rfl
  | _ :: r => by
    rw [List.map_cons]
    show (okd 8 _ && okds 8 (r.map fun k : Nat => D.int k)) = true
    rw [okds_N r]; rfl
theorem eq_empty (r : List Nat) : opEq (eN r) (.tup []) = some (.bl r.isEmpty) := by
  have h : okd 9 (eN r) = true := okds_N r
  unfold opEq
  rw [h]
  cases r <;> rfl
theorem last_at (r : List Nat) (h : r.isEmpty = false) : opIx (eN r) (.int (-1)) = some (.int (r.getLastD 0 : Nat)) := by
  cases r with
  | nil => cases h
  | cons a l =>
    show DL.atI ((a :: l).map fun k : Nat => D.int k) (-1) = _
    unfold DL.atI
    rw [if_neg (by decide), if_pos (by rw [List.length_map, List.length_cons]; omega), List.length_map, List.getElem?_map]
    have : ((-1 : Int) + ((a :: l).length : Nat)).toNat = l.length := by rw [List.length_cons]; omega
    rw [this]
    have : (a :: l)[l.length]? = some ((a :: l).getLastD 0) := by
      rw [List.getLastD_cons]
      cases l with
      | nil => rfl
      | cons b l => simp [List.getLastD_eq_getLast?, List.getLast?_eq_getElem?]
    rw [this]; rfl
theorem len_flat {α β : Type} (xs : List α) (ys : List β) : (xs.flatMap fun _ => ys).length = xs.length * ys.length := by
  induction xs with
  | nil => simp
  | cons a xs ih => rw [List.flatMap_cons, List.length_append, ih, List.length_cons, Nat.succ_mul]; omega
theorem idx_turn (t m s g som tm : D) (c : Nat) (rows : List (List Nat)) (hs : opLen som = some (.int c)) (hl : ∀ e, look e S som = som) (hz : rows.length * c ≤ 1000000) (hr : ∀ r ∈ rows, r.length ≤ 1000) (hc : c ≤ 1000) (a b p v : Sl) :
    w_found_best_1 [.val t, .val m, .val s, .val g, .val som, .val (.lst (rows.map eN)), .val tm, .non, .non, a, b, p, v] S = .nx [.val t, .val m, .val s, .val g, .val som, .val (.lst ((idxStep c rows).map eN)), .val tm, .non, .non, a, b, p, v] S := by
  have h1 : c_found_best_1 [.val t, .val m, .val s, .val g, .val som, .val (.lst (rows.map eN)), .val tm, .non, .non, a, b, p, v] S = .ok (rows.flatMap fun r => ((List.range c).filter fun k => r.isEmpty || decide (r.getLastD 0 ≤ k)).map fun k => eN (r ++ [k])) [.val t, .val m, .val s, .val g, .val som, .val (.lst (rows.map eN)), .val tm, .non, .non, a, b, p, v] S := by
    refine lLc2_ok rows eN (fun _ => List.range c) (fun k : Nat => D.int k) _ _ (fun r => [.val t, .val m, .val s, .val g, .val som, .val (.lst (rows.map eN)), .val tm, .val (eN r), .non, a, b, p, v]) (fun r k => [.val t, .val m, .val s, .val g, .val som, .val (.lst (rows.map eN)), .val tm, .val (eN r), .val (.int k), a, b, p, v])
      rfl (by rw [len_flat, List.length_range]; omega) (fun r _ => rfl) (fun r _ => hit_rng (n := c) (by simp [hl, hs]) (by omega)) (fun r _ k _ => rfl) (fun r m k _ => ?_) (fun r m k _ _ => ?_) (fun r _ k _ => rfl) (fun r _ => rfl) rfl
    · have e1 := eq_empty r
      have lk : ∀ e, look e S (eN r) = eN r := fun _ => rfl
      cases he : r.isEmpty with
      | true =>
        rw [he] at e1
        generalize eN r = R at *
        simp [e1, lk]
      | false =>
        have e2 := last_at r he
        rw [he] at e1
        have e3 : decide (((r.getLastD 0 : Nat) : Int) ≤ (k : Nat)) = decide (r.getLastD 0 ≤ k) := decide_eq_decide.mpr (by omega)
        generalize r.getLastD 0 = L at *
        generalize eN r = R at *
        simp [e1, e2, lk, e3]
    · have e1 : opAdd (eN r) (.tup [.int k]) = some (eN (r ++ [k])) := by
        have : (r.map fun k : Nat => D.int k).length + [D.int k].length ≤ 16777216 := by
          have := hr r m
          rw [List.length_map]; simp; omega
        show opAdd (.tup _) _ = _
        rw [opAdd_tup, if_pos this]
        simp
      have lk : ∀ e, look e S (eN r) = eN r := fun _ => rfl
      generalize eN (r ++ [k]) = Z at *
      generalize eN r = R at *
      simp [e1, lk]
  have e : (rows.flatMap fun r => ((List.range c).filter fun k => r.isEmpty || decide (r.getLastD 0 ≤ k)).map fun k => eN (r ++ [k])) = (idxStep c rows).map eN := by
    unfold idxStep
    rw [List.map_flatMap]
    simp [Function.comp_def]
  rw [e] at h1
  generalize (idxStep c rows).map eN = Z at *
  generalize D.lst (rows.map eN) = Y at *
  simp [w_found_best_1, h1]
theorem idx_lens (c : Nat) : ∀ (m : Nat), ∀ r ∈ idxRows c m, r.length = m
  | 0, r, h => by rw [List.mem_singleton.mp h]; rfl
  | m + 1, r, h => by
    obtain ⟨q, h1, h2⟩ := List.mem_flatMap.mp h
    obtain ⟨k, h3, rfl⟩ := List.mem_map.mp h2
    rw [List.length_append, idx_lens c m q h1]; rfl
theorem idx_mem (c : Nat) : ∀ (m : Nat), ∀ r ∈ idxRows c m, ∀ k ∈ r, k < c
  | 0, r, h => by rw [List.mem_singleton.mp h]; simp
  | m + 1, r, h => by
    obtain ⟨q, h1, h2⟩ := List.mem_flatMap.mp h
    obtain ⟨k, h3, rfl⟩ := List.mem_map.mp h2
    intro x hx
    rcases List.mem_append.mp hx with z | z
    · exact idx_mem c m q h1 x z
    · rw [List.mem_singleton.mp z]
      exact List.mem_range.mp (List.mem_filter.mp h3).1
/-! the search -/
def planOf (som : List (List Int)) (r : List Nat) : List (List Int) := r.map fun k => som.getD k []
abbrev Best := Option ((Int × Int) × List (List Int))
def bestStep (n : Nat) (g : Goal) (st : Best) (p : List (List Int)) : Best := match valueOf n p g with
  | none => st
  | some v => match st with
    | none => some (v, p)
    | some b => if v.1 * b.1.2 < b.1.1 * v.2 then some (v, p) else st
def eB1 : Best → D
  | none => .non
  | some b => eF b.1
def eB2 : Best → D
  | none => .non
  | some b => eTT b.2
def BestOk (st : Best) : Prop := ∀ b, st = some b → Bd 40 b.1.1 ∧ Bd 40 b.1.2
theorem maxL_bd {k : Nat} : ∀ (l : List Int), (∀ x ∈ l, Bd k x) → Bd k (maxL l)
  | [], _ => .zero
  | x :: xs, h => by
    have gen : ∀ (l : List Int) (a : Int), Bd k a → (∀ y ∈ l, Bd k y) → Bd k (l.foldl (fun a b => if a < b then b else a) a) := by
      intro l
      induction l with
      | nil => intro a ha _; exact ha
      | cons y l il =>
        intro a ha hl
        refine il _ ?_ fun z m => hl z (List.mem_cons_of_mem _ m)
        show Bd k (if a < y then y else a)
        split
        · exact hl y List.mem_cons_self
        · exact ha
    exact gen xs x (h x List.mem_cons_self) fun y m => h y (List.mem_cons_of_mem _ m)
theorem frac_ok {k : Nat} {t b : Int} (ht : Bd k t) (hb : Bd k b) (h0 : b ≠ 0) : Bd k (frac t b).1 ∧ Bd k (frac t b).2 := ⟨ht.of_le (frac_bd1 h0), hb.of_le (frac_bd2 h0)⟩
theorem valueOf_bd {n : Nat} {p : List (List Int)} (h : IsPlan (n + 1) p) {g : Goal} {v : Int × Int} (e : valueOf (n + 1) p g = some v) : Bd 40 v.1 ∧ Bd 40 v.2 := by
  have hn := h.n4
  have hG := gram_rows h
  have lG := gram_len (n + 1) p
  obtain ⟨_, d2⟩ := m_determinant (S := []) (k := 4) (n := n + 1) (by omega) (t := gram (n + 1) p) (by omega) lG hG
  have dp : ∀ x ∈ parts (n + 1) (gram (n + 1) p), Bd 30 x := fun x m => by
    obtain ⟨k, hk, rfl⟩ := List.mem_map.mp m
    have hk := List.mem_range.mp hk
    obtain ⟨_, w⟩ := m_determinant (S := []) (k := 4) (n := n) (by omega) (t := cross (gram (n + 1) p) k k) (by omega) (cross_len lG hk) (hG.cross hk)
    rw [Nat.add_sub_cancel]
    exact w.mono (by omega)
  unfold valueOf at e
  dsimp only at e
  split at e
  · cases e
  · rename_i h0
    cases e
    have d3 : Bd 40 (det (n + 1) (gram (n + 1) p)) := d2.mono (by omega)
    cases g with
    | whole => exact frac_ok (by unfold Bd; decide) d3 h0
    | sum =>
      refine frac_ok ?_ d3 h0
      have := sum_bd (k := 2 ^ 30) (parts (n + 1) (gram (n + 1) p)) fun x m => by have := dp x m; unfold Bd at this; omega
      have hl : (parts (n + 1) (gram (n + 1) p)).length ≤ 4 := by simp [parts]; omega
      unfold Bd
      have : (parts (n + 1) (gram (n + 1) p)).length * 2 ^ 30 ≤ 4 * 2 ^ 30 := Nat.mul_le_mul_right _ hl
      omega
    | worst => exact frac_ok ((maxL_bd _ dp).mono (by omega)) d3 h0
theorem bestStep_ok {n : Nat} {g : Goal} {st : Best} {p : List (List Int)} (h : IsPlan (n + 1) p) (hs : BestOk st) : BestOk (bestStep (n + 1) g st p) := by
  unfold bestStep
  split
  · exact hs
  · rename_i v hv
    have := valueOf_bd h hv
    split
    · intro b e; cases e; exact this
    · split
      · intro b e; cases e; exact this
      · exact hs
theorem m_is_below (v b : Int × Int) (h1 : Bd 40 v.1) (h2 : Bd 40 v.2) (h3 : Bd 40 b.1) (h4 : Bd 40 b.2) : F_is_below [eF v, eF b] S = .ok (.bl (decide (v.1 * b.2 < b.1 * v.2))) S := by
  simp [F_is_below, b_is_below, mulOk_of h1 h4 (by omega), mulOk_of h3 h2 (by omega)]
theorem best_turn {n : Nat} (g : Goal) (st : Best) (hs : BestOk st) (som : List (List Int)) (r : List Nat) (hr : ∀ k ∈ r, k < som.length) (hp : IsPlan (n + 1) (planOf som r)) (t m s rows tm : D) (k0 p v : Sl) (hk0 : k0 = .non ∨ ∃ d, k0 = .val d) :
    w_found_best_2 [.val t, .val m, .val s, .val (gD g), .val (eLT som), .val rows, .val tm, .val (eN r), k0, .val (eB1 st), .val (eB2 st), p, v] S =
      .nx [.val t, .val m, .val s, .val (gD g), .val (eLT som), .val rows, .val tm, .val (eN r), k0, .val (eB1 (bestStep (n + 1) g st (planOf som r))), .val (eB2 (bestStep (n + 1) g st (planOf som r))), .val (eTT (planOf som r)), .val (eO (valueOf (n + 1) (planOf som r) g))] S := by
  have h8 := hp.p8
  have lr : r.length ≤ 8 := by simpa [planOf] using h8
  have c1 : c_found_best_2 [.val t, .val m, .val s, .val (gD g), .val (eLT som), .val rows, .val tm, .val (eN r), k0, .val (eB1 st), .val (eB2 st), p, v] S = .ok (r.map fun k => eT (som.getD k [])) [.val t, .val m, .val s, .val (gD g), .val (eLT som), .val rows, .val tm, .val (eN r), k0, .val (eB1 st), .val (eB2 st), p, v] S := by
    refine lLc_map r (fun k : Nat => D.int k) _ (fun k => [.val t, .val m, .val s, .val (gD g), .val (eLT som), .val rows, .val tm, .val (eN r), .val (.int k), .val (eB1 st), .val (eB2 st), p, v]) rfl (by omega) (fun k _ => rfl) (fun k hk => ?_) (fun k _ => rfl) ?_
    · have e1 : opIx (eLT som) (.int k) = some (eT (som.getD k [])) := by
        show DL.atI (som.map eT) (k : Int) = _
        rw [atI_map, atI_nat]
        simp [List.getD, hr k hk]
      have lk : ∀ e, look e S (eLT som) = eLT som := fun _ => rfl
      generalize eT (som.getD k []) = Z at *
      generalize eLT som = Y at *
      simp [e1, lk]
    · rcases hk0 with rfl | ⟨d, rfl⟩ <;> rfl
  have e0 : opTuple (.lst (r.map fun k => eT (som.getD k []))) = some (eTT (planOf som r)) := by
    simp [planOf, Function.comp_def]
  have v1 := m_value_of (S := S) hp g
  unfold bestStep
  have vb : ∀ w, valueOf (n + 1) (planOf som r) g = some w → Bd 40 w.1 ∧ Bd 40 w.2 := fun w hw => valueOf_bd hp hw
  generalize valueOf (n + 1) (planOf som r) g = val at *
  have eB : ∀ w, eB2 (some (w, planOf som r)) = eTT (planOf som r) := fun _ => rfl
  generalize planOf som r = P at *
  generalize eTT P = PP at *
  generalize (r.map fun k => eT (som.getD k [])) = L at *
  generalize eLT som = SM at *
  generalize eN r = R at *
  generalize gD g = GG at *
  cases val with
  | none =>
    simp only [eO] at v1 ⊢
    simp [w_found_best_2, c1, e0, v1]
  | some w =>
    obtain ⟨b1, b2⟩ := vb w rfl
    simp only [eO] at v1 ⊢
    cases st with
    | none =>
      simp only [eB1, eB2] at c1 ⊢
      simp only [eB2] at eB
      simp [w_found_best_2, c1, e0, v1, eB w]
    | some b =>
      obtain ⟨b3, b4⟩ := hs b rfl
      have q := m_is_below (S := S) w b.1 b1 b2 b3 b4
      simp only [eB1, eB2] at c1 ⊢
      simp only [eB2] at eB
      by_cases hc : w.1 * b.1.2 < b.1.1 * w.2
      · rw [decide_eq_true hc] at q
        rw [if_pos hc]
        simp only [eB w]
        simp [w_found_best_2, c1, e0, v1, q]
      · rw [decide_eq_false hc] at q
        rw [if_neg hc]
        simp [w_found_best_2, c1, e0, v1, q]
end
end DL

/-! MJ: the town and its draws. -/
set_option linter.all false
set_option maxRecDepth 100000
namespace DL
/-- the town: a counter (so far at most k) and a cell for each number of the script, the store's first object -/
structure Town (ns : List Int) (k : Nat) (S : Store) : Prop where
  t : ∃ (c : Int) (cells : List Int), S[0]? = some (.lst (.int c :: cells.map .int)) ∧ cells.length = ns.length ∧ c.natAbs ≤ k
abbrev sD (ns : List Int) : D := .scr (ns.map .int)
theorem Town.mono {ns : List Int} {k j : Nat} {S : Store} (h : Town ns k S) (l : k ≤ j) : Town ns j S := by
  obtain ⟨c, cells, h1, h2, h3⟩ := h.t
  exact ⟨c, cells, h1, h2, by omega⟩
theorem m__law_town (ns : List Int) (h : ns.length ≤ 1000) : F__law_town [sD ns] [] = .ok (.ref 0) [.lst (.int 0 :: ns.map .int)] := by
  have : lsAdd (.lst [.int 0]) (.lst (ns.map D.int)) = some (.int 0 :: ns.map D.int) := by
    unfold lsAdd
    dsimp only
    rw [if_pos (by simp; omega)]; rfl
  simp [F__law_town, b__law_town, this]
theorem town0 (ns : List Int) : Town ns 0 [.lst (.int 0 :: ns.map .int)] := ⟨0, ns, rfl, rfl, by decide⟩
theorem fmod_range (a : Int) {b : Int} (h : 0 < b) : 0 ≤ a.fmod b ∧ a.fmod b < b := ⟨Int.fmod_nonneg_of_pos _ h, Int.fmod_lt_of_pos _ h⟩
theorem okds_I : ∀ (r : List Int), okds 8 (r.map D.int) = true
  | [] => rfl
  | _ :: r => by
    rw [List.map_cons]
    show (okd 8 _ && okds 8 (r.map D.int)) = true
    rw [okds_I r]; rfl
theorem scr_empty (ns : List Int) : opEq (sD ns) (.lst []) = some (.bl ns.isEmpty) := by
  have h : okd 9 (sD ns) = true := okds_I ns
  unfold opEq
  rw [h]
  cases ns <;> rfl
/-- what a draw gives, and what it leaves -/
structure Drawn (ns : List Int) (k : Nat) (lim : Int) (S S' : Store) (x : Int) : Prop where
  lo : 0 ≤ x
  hi : x < lim
  t : Town ns (k + 1) S'
  len : S'.length = S.length
  rest : ∀ n, n ≠ 0 → S'[n]? = S[n]?
theorem m__law_draw {ns : List Int} {k : Nat} {S : Store} (hT : Town ns k S) (hk : k ≤ 1000000) (lim : Int) (h0 : 0 < lim) (h1 : lim ≤ 1000000) (hn : ns.length ≤ 1000) : ∃ x S', F__law_draw [sD ns, .ref 0, .int lim] S = .ok (.int x) S' ∧ Drawn ns k lim S S' x := by
  obtain ⟨c, cells, hS, hl, hc⟩ := hT.t
  have l0 : 0 < S.length := (List.getElem?_eq_some_iff.mp hS).1
  have es : start 6 [sD ns, .ref 0, .int lim] = [.val (sD ns), .val (.ref 0), .val (.int lim), .non, .non, .non] := rfl
  -- the counter
  obtain ⟨S1, hS1⟩ : ∃ S1, S1 = S.set 0 (.lst (.int (c + 1) :: cells.map .int)) := ⟨_, rfl⟩
  have g1 : S1[0]? = some (.lst (.int (c + 1) :: cells.map .int)) := by rw [hS1, List.getElem?_set_self l0]
  have n1 : S1.length = S.length := by rw [hS1, List.length_set]
  have r1 : ∀ n, n ≠ 0 → S1[n]? = S[n]? := fun n hn => by rw [hS1, List.getElem?_set_ne (Ne.symm hn)]
  have put : ∀ e : Env, putAt (.int (c + 1)) (.ref 0) 0 e S = .nx e S1 := fun e => by
    unfold putAt
    dsimp only
    rw [hS]
    dsimp only
    have : placeOf (D.int c :: cells.map D.int).length 0 = some 0 := by unfold placeOf; rw [if_pos (by omega), if_pos (by rw [List.length_cons]; omega)]; rfl
    rw [this, hS1]; rfl
  have lk0 : ∀ e, look e S (.ref 0) = .lst (.int c :: cells.map .int) := fun e => by unfold look; dsimp only; rw [hS]
  have lk1 : ∀ e, look e S1 (.ref 0) = .lst (.int (c + 1) :: cells.map .int) := fun e => by unfold look; dsimp only; rw [g1]
  have ix0 : opIx (.lst (.int c :: cells.map .int)) (.int 0) = some (.int c) := rfl
  have ix1 : opIx (.lst (.int (c + 1) :: cells.map .int)) (.int 0) = some (.int (c + 1)) := rfl
  have T1 : Town ns (k + 1) S1 := ⟨c + 1, cells, g1, hl, by omega⟩
  have md : ∀ a : Int, opMod (.int a) (.int lim) = some (.int (a.fmod lim)) := fun a => by rw [opMod_int, if_neg (by omega)]
  have ee := scr_empty ns
  have eadd : opAdd (.int c) (.int 1) = some (.int (c + 1)) := rfl
  have first : sAsg (dB2 (dB2 (dV 1) (dC (.int 0)) opIx) (dC (.int 1)) opAdd) (gSub (dV 1) (dC (.int 0))) [.val (sD ns), .val (.ref 0), .val (.int lim), .non, .non, .non] S = .nx [.val (sD ns), .val (.ref 0), .val (.int lim), .non, .non, .non] S1 := by
    simp only [sAsg_ap, dB2_ap, dV_ap, dC_ap, List.getElem?_cons_succ, List.getElem?_cons_zero, bind_ok, lk0, look_int, ix0, eadd, sE_ok, gSub, put]
  have lkS : ∀ e S, look e S (sD ns) = sD ns := fun _ _ => rfl
  have fin : ∀ (x : Int) (Z : Store), Town ns (k + 1) Z → Z.length = S1.length → (∀ n, n ≠ 0 → Z[n]? = S1[n]?) → Drawn ns k lim S Z (x.fmod lim) := fun x Z hZ hz1 hz2 =>
    ⟨(fmod_range x h0).1, (fmod_range x h0).2, hZ, hz1.trans n1, fun n hn => (hz2 n hn).trans (r1 n hn)⟩
  have bc : Bd 21 (c + 1) := by unfold Bd; omega
  by_cases he : ns.isEmpty = true
  · rw [he] at ee
    refine ⟨_, S1, ?_, fin (((c + 1) * (c + 1) * 7).fdiv 3) S1 T1 rfl fun _ _ => rfl⟩
    have b2 : Bd 42 ((c + 1) * (c + 1)) := bc.mul bc
    have m1 : opMul (.int (c + 1)) (.int (c + 1)) = some (.int ((c + 1) * (c + 1))) := by rw [opMul_int, if_pos (mulOk_of bc bc (by omega))]
    have m2 : opMul (.int ((c + 1) * (c + 1))) (.int 7) = some (.int ((c + 1) * (c + 1) * 7)) := by rw [opMul_int, if_pos (mulOk_of (j := 3) b2 (by unfold Bd; decide) (by omega))]
    have m3 : opDiv (.int ((c + 1) * (c + 1) * 7)) (.int 3) = some (.int (((c + 1) * (c + 1) * 7).fdiv 3)) := by rw [opDiv_int, if_pos (by decide)]
    have m4 := md (((c + 1) * (c + 1) * 7).fdiv 3)
    simp only [F__law_draw, fnOf_ap, es, b__law_draw, sSeq_ap, first, sIf_ap, dTest_ap, dB2_ap, dV_ap, dC_ap, dFz_ap, aNil_ap, List.getElem?_cons_succ, List.getElem?_cons_zero, bind_ok, look_lst, look_int, lkS, lk1, ee, sE_ok, if_true, sRet_ap, ix1, m1, m2, m3, m4]
  · have he' : ns.isEmpty = false := by simpa using he
    rw [he'] at ee
    have hpos : 0 < ns.length := by
      cases ns with
      | nil => cases he'
      | cons a l => simp
    have el : opLen (sD ns) = some (.int (ns.length : Nat)) := by simp
    -- the place
    obtain ⟨a, ha, hal⟩ : ∃ a : Nat, (c + 1).fmod (ns.length : Nat) = (a : Int) ∧ a < ns.length := by
      have := fmod_range (c + 1) (b := (ns.length : Nat)) (by omega)
      exact ⟨((c + 1).fmod (ns.length : Nat)).toNat, by omega, by omega⟩
    have eat : opMod (.int (c + 1)) (.int (ns.length : Nat)) = some (.int a) := by rw [opMod_int, if_neg (by omega), ha]
    have e1a : opAdd (.int 1) (.int a) = some (.int ((a + 1 : Nat) : Int)) := by
      rw [opAdd_int]; congr 2; omega
    have ecell : opIx (.lst (.int (c + 1) :: cells.map .int)) (.int ((a + 1 : Nat) : Int)) = some (.int (at0 cells a)) := by
      show DL.atI (D.int (c + 1) :: cells.map D.int) ((a + 1 : Nat) : Int) = _
      rw [atI_nat, List.getElem?_cons_succ, List.getElem?_map, get_getD (by omega)]; rfl
    have escr : opIx (sD ns) (.int a) = some (.int (at0 ns a)) := by
      show DL.atI (ns.map D.int) (a : Int) = _
      rw [atI_nat, List.getElem?_map, get_getD hal]; rfl
    have epow : opPow (.int 10) (.int 18) = some (.int 1000000000000000000) := rfl
    have hge : opGe (.int (at0 ns a)) (.int 1000000000000000000) = some (.bl (decide (1000000000000000000 ≤ at0 ns a))) := rfl
    have hgt : opGt (.int (at0 cells a)) (.int 0) = some (.bl (decide (0 < at0 cells a))) := rfl
    generalize decide (1000000000000000000 ≤ at0 ns a) = bge at hge
    generalize decide (0 < at0 cells a) = bgt at hgt
    generalize (1000000000000000000 : Int) = big at epow hge
    by_cases hb : bge = true ∧ bgt = true
    · obtain ⟨rfl, rfl⟩ := hb
      have dv : opDiv (.int (at0 cells a)) (.int lim) = some (.int ((at0 cells a).fdiv lim)) := by rw [opDiv_int, if_pos (divOk_of (k := 21) (by unfold Bd; omega) (by omega) (by omega))]
      obtain ⟨S2, hS2⟩ : ∃ S2, S2 = S1.set 0 (.lst (.int (c + 1) :: (cells.set a ((at0 cells a).fdiv lim)).map .int)) := ⟨_, rfl⟩
      have l1 : 0 < S1.length := by rw [n1]; exact l0
      have put2 : ∀ e : Env, putAt (.int ((at0 cells a).fdiv lim)) (.ref 0) ((a + 1 : Nat) : Int) e S1 = .nx e S2 := fun e => by
        unfold putAt
        dsimp only
        rw [g1]
        dsimp only
        have : placeOf (D.int (c + 1) :: cells.map D.int).length ((a + 1 : Nat) : Int) = some (a + 1) := by
          unfold placeOf
          rw [if_pos (by omega), if_pos (by rw [List.length_cons, List.length_map]; omega)]; rfl
        rw [this, hS2]
        simp [List.map_set]
      have g2 : S2[0]? = some (.lst (.int (c + 1) :: (cells.set a ((at0 cells a).fdiv lim)).map .int)) := by rw [hS2, List.getElem?_set_self l1]
      refine ⟨_, S2, ?_, fin (at0 cells a) S2 ⟨c + 1, _, g2, by rw [List.length_set]; exact hl, by omega⟩ (by rw [hS2, List.length_set]) fun n hn => by rw [hS2, List.getElem?_set_ne (Ne.symm hn)]⟩
      have m4 := md (at0 cells a)
      simp only [F__law_draw, fnOf_ap, es, b__law_draw, sSeq_ap, first, sIf_ap, bAnd_ap, dTest_ap, dB2_ap, dB1_ap, dV_ap, dC_ap, dFz_ap, aNil_ap, sNext_ap, List.getElem?_cons_succ, List.getElem?_cons_zero, bind_ok, look_lst, look_int, lkS, lk1, ee, sE_ok, Bool.false_eq_true, if_false, if_true, sRet_ap, ix1, sAsg_ap, gName_ap, List.set_cons_succ, List.set_cons_zero, el, eat, e1a, ecell, escr, epow, hge, hgt, dv, gSub, put2, m4]
    · -- a fresh number
      obtain ⟨q1, p1⟩ : ∃ q, opMul (.int 104729) (.int (c + 1)) = some (.int q) := ⟨_, by rw [opMul_int, if_pos (mulOk_of (i := 17) (by unfold Bd; decide) bc (by omega))]⟩
      obtain ⟨q2, p2⟩ : ∃ q, opAdd (.int (at0 ns a)) (.int q1) = some (.int q) := ⟨_, rfl⟩
      obtain ⟨q3, p3, b3⟩ : ∃ q, opMod (.int q2) (.int 4294967291) = some (.int q) ∧ 0 ≤ q ∧ q < 4294967291 := ⟨_, by rw [opMod_int, if_neg (by decide)], fmod_range _ (by decide)⟩
      obtain ⟨q4, p4⟩ : ∃ q, opPow (.int q3) (.int 5) = some (.int q) := by
        refine ⟨q3 ^ ((5 : Int).toNat), ?_⟩
        rw [opPow_int, decide_eq_true (show (0 : Int) ≤ 5 by decide), decide_eq_true (show (5 : Int) ≤ 1000 by decide), decide_eq_true (show q3.natAbs < 18446744073709551616 by omega)]
        rfl
      obtain ⟨q5, p5, b5⟩ : ∃ q, opMod (.int q4) (.int 4294967279) = some (.int q) ∧ 0 ≤ q ∧ q < 4294967279 := ⟨_, by rw [opMod_int, if_neg (by decide)], fmod_range _ (by decide)⟩
      obtain ⟨q6, p6, b6⟩ : ∃ q, opDiv (.int q5) (.int 64) = some (.int q) ∧ Bd 33 q := by
        refine ⟨_, by rw [opDiv_int, if_pos (by decide)], ?_⟩
        rw [Int.fdiv_eq_ediv_of_nonneg _ (by decide)]
        unfold Bd
        omega
      obtain ⟨q7, p7⟩ : ∃ q, opMul (.int q6) (.int 69621) = some (.int q) := ⟨_, by rw [opMul_int, if_pos (mulOk_of (j := 17) b6 (by unfold Bd; decide) (by omega))]⟩
      obtain ⟨q8, p8⟩ : ∃ q, opAdd (.int q7) (.int q5) = some (.int q) := ⟨_, rfl⟩
      obtain ⟨q9, p9⟩ : ∃ q, opMod (.int q8) (.int 4294967231) = some (.int q) := ⟨_, by rw [opMod_int, if_neg (by decide)]⟩
      obtain ⟨q10, p10⟩ : ∃ q, opDiv (.int q9) (.int 8) = some (.int q) := ⟨_, by rw [opDiv_int, if_pos (by decide)]⟩
      have m4 := md q10
      refine ⟨_, S1, ?_, fin q10 S1 T1 rfl fun _ _ => rfl⟩
      cases bge with
      | false =>
        simp only [F__law_draw, fnOf_ap, es, b__law_draw, sSeq_ap, first, sIf_ap, bAnd_ap, dTest_ap, dB2_ap, dB1_ap, dV_ap, dC_ap, dFz_ap, aNil_ap, sNext_ap, List.getElem?_cons_succ, List.getElem?_cons_zero, bind_ok, look_lst, look_int, lkS, lk1, ee, sE_ok, Bool.false_eq_true, if_false, if_true, sRet_ap, ix1, sAsg_ap, gName_ap, List.set_cons_succ, List.set_cons_zero, el, eat, e1a, ecell, escr, epow, hge, hgt, p1, p2, p3, p4, p5, p6, p7, p8, p9, p10, m4]
      | true =>
        cases bgt with
        | true => exact absurd ⟨rfl, rfl⟩ hb
        | false =>
          simp only [F__law_draw, fnOf_ap, es, b__law_draw, sSeq_ap, first, sIf_ap, bAnd_ap, dTest_ap, dB2_ap, dB1_ap, dV_ap, dC_ap, dFz_ap, aNil_ap, sNext_ap, List.getElem?_cons_succ, List.getElem?_cons_zero, bind_ok, look_lst, look_int, lkS, lk1, ee, sE_ok, Bool.false_eq_true, if_false, if_true, sRet_ap, ix1, sAsg_ap, gName_ap, List.set_cons_succ, List.set_cons_zero, el, eat, e1a, ecell, escr, epow, hge, hgt, p1, p2, p3, p4, p5, p6, p7, p8, p9, p10, m4]
/-- a pick from a list or a tuple of so many -/
theorem m__law_pick {ns : List Int} {k : Nat} {S : Store} (hT : Town ns k S) (hk : k ≤ 1000000) (hn : ns.length ≤ 1000) (C : D) (n : Nat) (hC : opLen C = some (.int n)) (lC : ∀ e S, look e S C = C) (h0 : 0 < n) (h1 : n ≤ 1000000) (f : Nat → D) (hf : ∀ i, i < n → opIx C (.int i) = some (f i)) :
    ∃ i S', i < n ∧ F__law_pick [sD ns, .ref 0, C] S = .ok (f i) S' ∧ Town ns (k + 1) S' ∧ S'.length = S.length ∧ ∀ m, m ≠ 0 → S'[m]? = S[m]? := by
  obtain ⟨x, S', h2, h3⟩ := m__law_draw hT hk (n : Int) (by omega) (by omega) hn
  obtain ⟨i, rfl⟩ : ∃ i : Nat, x = (i : Int) := ⟨x.toNat, by have := h3.lo; omega⟩
  have hi : i < n := by have := h3.hi; omega
  refine ⟨i, S', hi, ?_, h3.t, h3.len, h3.rest⟩
  have e := hf i hi
  have es : start 3 [sD ns, .ref 0, C] = [.val (sD ns), .val (.ref 0), .val C] := rfl
  simp only [F__law_pick, fnOf_ap, es, b__law_pick, sRet_ap, dB2_ap, dB1_ap, dV_ap, dCall_ap, aCons_ap, aNil_ap, List.getElem?_cons_succ, List.getElem?_cons_zero, bind_ok, lC, hC, h2, look_int, e, sE_ok]
end DL

/-! MK: the law's own fractions. -/
set_option linter.all false
set_option maxRecDepth 100000
namespace DL
def foldO {α σ : Type} (step : σ → α → Option σ) : σ → List α → Option σ
  | b, [] => some b
  | b, a :: l => match step b a with
    | some b => foldO step b l
    | none => none
theorem turns_opt {α σ : Type} {g : GM} {body : SM} {S : Store} (enc : α → D) (P : σ → Env → Prop) (step : σ → α → Option σ) : ∀ (xs : List α) (b c : σ) (e : Env), P b e → foldO step b xs = some c →
    (∀ b e a b', a ∈ xs → P b e → step b a = some b' → ∃ e1 e2, g (enc a) e S = .nx e1 S ∧ body e1 S = .nx e2 S ∧ P b' e2) → ∃ e', turns [] g body (xs.map enc) e S = .nx e' S ∧ P c e'
  | [], b, c, e, h, hc, _ => by
    cases hc
    exact ⟨e, by simp [turns], h⟩
  | a :: xs, b, c, e, h, hc, k => by
    unfold foldO at hc
    cases hs : step b a with
    | none => rw [hs] at hc; cases hc
    | some b' =>
      rw [hs] at hc
      obtain ⟨e1, e2, h1, h2, h3⟩ := k b e a b' List.mem_cons_self h hs
      obtain ⟨e', h4, h5⟩ := turns_opt enc P step xs b' c e2 h3 hc fun b e a b' m => k b e a b' (List.mem_cons_of_mem _ m)
      refine ⟨e', ?_, h5⟩
      rw [List.map_cons, turns]
      simp only [still_nil, if_true, h1, h2]
      exact h4
section
variable {S : Store}
abbrev Fr := Int × Int
def lplus (p q : Fr) : Option Fr :=
  if mulOk p.1 q.2 && mulOk q.1 p.2 && mulOk p.2 q.2 && divOk (sg (p.1 * q.2 + q.1 * p.2) (p.2 * q.2)) then some (frac (p.1 * q.2 + q.1 * p.2) (p.2 * q.2)) else none
def ltimes (p q : Fr) : Option Fr :=
  if mulOk p.1 q.1 && mulOk p.2 q.2 && divOk (sg (p.1 * q.1) (p.2 * q.2)) then some (frac (p.1 * q.1) (p.2 * q.2)) else none
def lbelow (p q : Fr) : Option Bool := if mulOk p.1 q.2 && mulOk q.1 p.2 then some (decide (p.1 * q.2 < q.1 * p.2)) else none
theorem m__law_plus {p q r : Fr} (h : lplus p q = some r) : F__law_plus [eF p, eF q] S = .ok (eF r) S := by
  unfold lplus at h
  split at h
  · rename_i c
    simp only [Bool.and_eq_true] at c
    obtain ⟨⟨⟨c1, c2⟩, c3⟩, c4⟩ := c
    cases h
    have := m__law_ratio (S := S) _ _ c4
    simp only [eF] at this
    simp [F__law_plus, b__law_plus, c1, c2, c3, this]
  · cases h
theorem m__law_times {p q r : Fr} (h : ltimes p q = some r) : F__law_times [eF p, eF q] S = .ok (eF r) S := by
  unfold ltimes at h
  split at h
  · rename_i c
    simp only [Bool.and_eq_true] at c
    obtain ⟨⟨c1, c2⟩, c4⟩ := c
    cases h
    have := m__law_ratio (S := S) _ _ c4
    simp only [eF] at this
    simp [F__law_times, b__law_times, c1, c2, this]
  · cases h
theorem m__law_below {p q : Fr} {b : Bool} (h : lbelow p q = some b) : F__law_below [eF p, eF q] S = .ok (.bl b) S := by
  unfold lbelow at h
  split at h
  · rename_i c
    simp only [Bool.and_eq_true] at c
    obtain ⟨c1, c2⟩ := c
    cases h
    simp [F__law_below, b__law_below, c1, c2]
  · cases h
theorem m__law_sum_of {l : List Fr} {r : Fr} (h : foldO lplus (0, 1) l = some r) : F__law_sum_of [.lst (l.map eF)] S = .ok (eF r) S := by
  have es : start 3 [.lst (l.map eF)] = [.val (.lst (l.map eF)), .non, .non] := rfl
  obtain ⟨e', h1, o, rfl⟩ := turns_opt (S := S) (g := gName 2) (body := w__law_sum_of_1) eF (fun (b : Fr) e => ∃ o, e = [.val (.lst (l.map eF)), .val (eF b), o]) lplus l (0, 1) r [.val (.lst (l.map eF)), .val (eF (0, 1)), .non] ⟨.non, rfl⟩ h (by
    rintro b e a b' m ⟨o, rfl⟩ hs
    refine ⟨_, [.val (.lst (l.map eF)), .val (eF b'), .val (eF a)], rfl, ?_, .val (eF a), rfl⟩
    have := m__law_plus (S := S) hs
    generalize eF b' = B' at *
    generalize eF b = B at *
    generalize eF a = A at *
    simp [w__law_sum_of_1, this])
  have h1' : turns [] (gName 2) w__law_sum_of_1 (l.map eF) [.val (.lst (l.map eF)), .val (.tup [.int 0, .int 1]), .non] S = .nx [.val (.lst (l.map eF)), .val (eF r), o] S := h1
  generalize eF r = R at *
  simp only [F__law_sum_of, fnOf_ap, es, b__law_sum_of, sSeq_ap, sAsg_ap, dTup_ap, aCons_ap, aNil_ap, dC_ap, bind_ok, sE_ok, gName_ap, List.set_cons_succ, List.set_cons_zero, sFor_ap, iSeq_ap, dV_ap, List.getElem?_cons_zero, List.getElem?_cons_succ, srcD_lst, h1', sRet_ap]
/-! determinants of fractions -/
abbrev eLF (t : List (List Fr)) : D := .lst (t.map fun r => .lst (r.map eF))
def ldetStep (F : List (List Fr) → Option Fr) (r : List Fr) (rs : List (List Fr)) (a : Fr) (k : Nat) : Option Fr := match r[k]?, F (rs.map (·.eraseIdx k)) with
  | some x, some d => match ltimes x d with
    | some p => lplus a (if k % 2 = 0 then p else (0 - p.1, p.2))
    | none => none
  | _, _ => none
def ldet : Nat → List (List Fr) → Option Fr
  | 0, _ => none
  | n + 1, t => match t with
    | [] => none
    | r :: rs => if rs.isEmpty then r[0]? else foldO (ldetStep (ldet n) r rs) (0, 1) (List.range (rs.length + 1))
theorem m__law_det : ∀ (n : Nat) (t : List (List Fr)) (v : Fr), (∀ r ∈ t, r.length ≤ 1000) → t.length ≤ 1000 → ldet n t = some v → R__law_det n [eLF t] S = .ok (eF v) S
  | 0, t, v, _, _, h => by cases h
  | n + 1, t, v, hr, hl, h => by
    cases t with
    | nil => cases h
    | cons r rs =>
      have es : start 6 [eLF (r :: rs)] = [.val (eLF (r :: rs)), .non, .non, .non, .non, .non] := rfl
      have el : opLen (eLF (r :: rs)) = some (.int ((rs.length + 1 : Nat) : Int)) := by simp
      have lk : ∀ e, look e S (eLF (r :: rs)) = eLF (r :: rs) := fun _ => rfl
      have i0 : opIx (eLF (r :: rs)) (.int 0) = some (.lst (r.map eF)) := rfl
      unfold ldet at h
      dsimp only at h
      by_cases he : rs.isEmpty = true
      · rw [if_pos he] at h
        have e1 : opEq (.int ((rs.length + 1 : Nat) : Int)) (.int 1) = some (.bl true) := by
          have : rs.length = 0 := by simpa using he
          rw [this]; rfl
        have i1 : opIx (.lst (r.map eF)) (.int 0) = some (eF v) := by
          show DL.atI (r.map eF) ((0 : Nat) : Int) = _
          rw [atI_nat, List.getElem?_map, h]; rfl
        generalize eLF (r :: rs) = T at *
        generalize r.map eF = R at *
        generalize eF v = V at *
        simp only [R__law_det, fnOf_ap, es, b__law_det, sSeq_ap, sIf_ap, dTest_ap, dB2_ap, dB1_ap, dV_ap, dC_ap, List.getElem?_cons_zero, bind_ok, lk, el, look_int, e1, sE_ok, if_true, sRet_ap, i0, look_lst, i1]
      · rw [if_neg he] at h
        have e1 : opEq (.int ((rs.length + 1 : Nat) : Int)) (.int 1) = some (.bl false) := by
          have : ¬ rs.length = 0 := by simpa using he
          rw [opEq_int]
          have : (((rs.length + 1 : Nat) : Int) == 1) = false := by rw [Bool.eq_false_iff]; simp only [ne_eq, beq_iff_eq]; omega
          rw [this]
        have c1 : ∀ (f : D) (k : Nat) (z o : Sl), (z = .non ∨ ∃ d, z = .val d) → c__law_det_1 (R__law_det n) [.val (eLF (r :: rs)), .val f, .val (.int k), z, .non, o] S = .ok ((rs.map (·.eraseIdx k)).map fun r => .lst (r.map eF)) [.val (eLF (r :: rs)), .val f, .val (.int k), z, .non, o] S := fun f k z o hz => by
          rw [List.map_map]
          refine lLc_map rs (fun r => D.lst (r.map eF)) _ (fun a => [.val (eLF (r :: rs)), .val f, .val (.int k), z, .val (.lst (a.map eF)), o]) (by
            show iSeq _ _ _ = _
            simp [cut_tail]) (by simp at hl; omega) (fun a _ => rfl) (fun a m => ?_) (fun a _ => rfl) rfl
          have lw : a.length ≤ 1000 := hr a (List.mem_cons_of_mem _ m)
          have e := cut_erase (a.map eF) k
          have l1 : (cutD (a.map eF) none (some (k : Int))).length + (cutD (a.map eF) (some ((k : Int) + 1)) none).length ≤ 16777216 := by
            rw [← List.length_append, e]
            have := List.length_eraseIdx_le (a.map eF) k
            simp only [List.length_map] at this; omega
          simp only [dB2_ap, dSl_ap, dV_ap, List.getElem?_cons_zero, List.getElem?_cons_succ, bind_ok, oNone_ap, oSome_ap, look_lst, opCut_lst, dC_ap, look_int, opAdd_int, opAdd_lst, if_pos l1, e, erase_map, Function.comp_apply]
        obtain ⟨e', h1, k1, z1, o1, rfl, hz1⟩ := turns_opt (S := S) (g := gName 2) (body := w__law_det_1 (R__law_det n)) (fun k : Nat => D.int k) (fun (b : Fr) e => ∃ k z o, e = [.val (eLF (r :: rs)), .val (eF b), k, z, .non, o] ∧ (z = .non ∨ ∃ d, z = .val d)) (ldetStep (ldet n) r rs) (List.range (rs.length + 1)) (0, 1) v
          [.val (eLF (r :: rs)), .val (eF (0, 1)), .non, .non, .non, .non] ⟨.non, .non, .non, rfl, .inl rfl⟩ h (by
            rintro b e k b' m ⟨k0, z, o, rfl, hz⟩ hs
            unfold ldetStep at hs
            split at hs
            · rename_i x d hx hd
              split at hs
              · rename_i p hp
                have g1 := m__law_det n (rs.map (·.eraseIdx k)) d (fun q hq => by
                  obtain ⟨a, ha, rfl⟩ := List.mem_map.mp hq
                  have := hr a (List.mem_cons_of_mem _ ha)
                  have := List.length_eraseIdx_le a k
                  omega) (by simp at hl ⊢; omega) hd
                have g2 := m__law_times (S := S) hp
                have g3 := m__law_plus (S := S) hs
                have ix : opIx (.lst (r.map eF)) (.int k) = some (eF x) := by
                  show DL.atI (r.map eF) (k : Int) = _
                  rw [atI_nat, List.getElem?_map, hx]; rfl
                refine ⟨_, [.val (eLF (r :: rs)), .val (eF b'), .val (.int k), .val (.lst ((rs.map (·.eraseIdx k)).map fun r => .lst (r.map eF))), .non, .val (eF p)], rfl, ?_, .val (.int k), .val (.lst ((rs.map (·.eraseIdx k)).map fun r => .lst (r.map eF))), .val (eF p), rfl, .inr ⟨_, rfl⟩⟩
                have hc := c1 (eF b) k z o hz
                obtain ⟨M, e2, e3⟩ : ∃ M : Int, opMod (.int k) (.int 2) = some (.int M) ∧ opEq (.int M) (.int 0) = some (.bl (decide (k % 2 = 0))) := by
                  refine ⟨((k % 2 : Nat) : Int), ?_, ?_⟩
                  · have : opMod (.int k) (.int 2) = some (.int (((k : Nat) : Int).fmod 2)) := rfl
                    rw [this, show (2 : Int) = ((2 : Nat) : Int) from rfl, fmod_nat]
                  · rw [opEq_int]
                    have : (((k % 2 : Nat) : Int) == 0) = decide (k % 2 = 0) := by
                      rw [Bool.eq_iff_iff, beq_iff_eq, decide_eq_true_eq]; omega
                    rw [this]
                have g1' : R__law_det n [.lst ((rs.map (·.eraseIdx k)).map fun r => .lst (r.map eF))] S = .ok (eF d) S := g1
                generalize (rs.map (·.eraseIdx k)).map (fun r => D.lst (r.map eF)) = Q at hc g1' ⊢
                generalize eF b' = B' at g3 ⊢
                generalize eF b = B at g3 hc ⊢
                generalize eF d = DD at g1' g2
                generalize eF x = XX at g2 ix
                generalize eLF (r :: rs) = T at hc lk i0 ⊢
                have p0 : opIx (eF p) (.int 0) = some (.int p.1) := rfl
                have p1 : opIx (eF p) (.int 1) = some (.int p.2) := rfl
                have lp : ∀ e, look e S (eF p) = eF p := fun _ => rfl
                by_cases hk : k % 2 = 0
                · rw [decide_eq_true hk] at e3
                  rw [if_pos hk] at g3
                  generalize eF p = PP at *
                  rcases hz with rfl | ⟨dz, rfl⟩ <;> simp [-opMod_int, -opEq_int, w__law_det_1, hc, lk, i0, ix, g1', g2, e2, e3, g3]
                · rw [decide_eq_false hk] at e3
                  rw [if_neg hk] at g3
                  have g3' : F__law_plus [B, .tup [.int (0 - p.1), .int p.2]] S = .ok B' S := g3
                  have sb : opSub (.int 0) (.int p.1) = some (.int (0 - p.1)) := rfl
                  generalize (0 - p.1) = m1 at g3' sb
                  generalize eF p = PP at *
                  rcases hz with rfl | ⟨dz, rfl⟩ <;> simp [-opMod_int, -opEq_int, -opSub_int, w__law_det_1, hc, lk, i0, ix, g1', g2, e2, e3, g3', p0, p1, lp, sb]
              · cases hs
            · cases hs)
        have hq := hit_rng (S := S) (f := dB1 (dV 0) opLen) (n := rs.length + 1) (e := [.val (eLF (r :: rs)), .val (eF (0, 1)), .non, .non, .non, .non]) (by simp) (by simp at hl; omega)
        have e01 : D.tup [.int 0, .int 1] = eF (0, 1) := rfl
        generalize eLF (r :: rs) = T at *
        generalize eF (0, 1) = Z at *
        generalize eF v = V at *
        simp only [R__law_det, fnOf_ap, es, b__law_det, sSeq_ap, sIf_ap, dTest_ap, dB2_ap, dB1_ap, dV_ap, dC_ap, List.getElem?_cons_zero, List.getElem?_cons_succ, bind_ok, lk, el, look_int, e1, sE_ok, Bool.false_eq_true, if_false, sNext_ap, sAsg_ap, dTup_ap, aCons_ap, aNil_ap, gName_ap, List.set_cons_succ, List.set_cons_zero, e01, sFor_ap]
        rw [hq]
        simp only [sE_ok]
        rw [h1]
        simp
/-- the law's value of a plan -/
def tieF (n : Nat) (G : List (List Int)) : List (List Fr) := (List.range n).map fun i => (List.range n).map fun j => tie n G i j
def diagF (n : Nat) (G : List (List Int)) : List Fr := (List.range n).map fun i => tie n G i i
def worstStep (b o : Fr) : Option Fr := match lbelow b o with
  | some true => some o
  | some false => some b
  | none => none
def lawVal (n : Nat) (p : List (List Int)) (g : Goal) : Option Fr :=
  let G := gram n p
  match g with
  | .whole => ldet 6 (tieF n G)
  | .sum => foldO lplus (0, 1) (diagF n G)
  | .worst => match diagF n G with
    | [] => none
    | x :: xs => foldO worstStep x (x :: xs)
theorem tieRows_eq (n : Nat) (G : List (List Int)) : tieRows n G = (tieF n G).map fun r => .tup (r.map eF) := by
  unfold tieRows tieF
  simp [Function.comp_def]
theorem tieF_at (n : Nat) (G : List (List Int)) (k : Nat) (hk : k < n) : ∃ r : List Fr, opIx (.tup ((tieF n G).map fun r => .tup (r.map eF))) (.int k) = some (.tup (r.map eF)) ∧ opIx (.tup (r.map eF)) (.int k) = some (eF (tie n G k k)) := by
  refine ⟨(List.range n).map fun j => tie n G k j, ?_, ?_⟩
  · show DL.atI _ (k : Int) = _
    rw [atI_nat, List.getElem?_map]
    unfold tieF
    rw [List.getElem?_map, List.getElem?_range hk]; rfl
  · show DL.atI _ (k : Int) = _
    rw [atI_nat, List.getElem?_map, List.getElem?_map, List.getElem?_range hk]; rfl
theorem m__law_value {n : Nat} {p : List (List Int)} (h : IsPlan (n + 1) p) (hs : settledB (n + 1) p = true) (h0 : det (n + 1) (gram (n + 1) p) ≠ 0) (g : Goal) {v : Fr} (hv : lawVal (n + 1) p g = some v) : F__law_value [eTT p, gD g] S = .ok (eF v) S := by
  have hn := h.n4
  have t1 := m_ties (S := S) h hs h0
  rw [tieRows_eq] at t1
  have es : start 8 [eTT p, gD g] = [.val (eTT p), .val (gD g), .non, .non, .non, .non, .non, .non] := rfl
  obtain ⟨TT, hTT⟩ : ∃ TT, TT = D.tup ((tieF (n + 1) (gram (n + 1) p)).map fun r => .tup (r.map eF)) := ⟨_, rfl⟩
  have lT : ∀ e, look e S TT = TT := fun e => by rw [hTT]; rfl
  have elT : opLen TT = some (.int ((n + 1 : Nat) : Int)) := by rw [hTT, opLen_tup]; simp [tieF]
  have c1 : c__law_value_1 [.val (eTT p), .val (gD g), .val TT, .non, .non, .non, .non, .non] S = .ok ((tieF (n + 1) (gram (n + 1) p)).map fun r => .lst (r.map eF)) [.val (eTT p), .val (gD g), .val TT, .non, .non, .non, .non, .non] S := by
    rw [hTT]
    exact lLc_map (tieF (n + 1) (gram (n + 1) p)) (fun r => D.tup (r.map eF)) _ (fun a => [.val (eTT p), .val (gD g), .val (D.tup ((tieF (n + 1) (gram (n + 1) p)).map fun r => .tup (r.map eF))), .val (.tup (a.map eF)), .non, .non, .non, .non]) rfl (by simp [tieF]; omega) (fun a _ => rfl) (fun a _ => by simp) (fun a _ => rfl) rfl
  have c2 : c__law_value_2 [.val (eTT p), .val (gD g), .val TT, .non, .non, .non, .non, .non] S = .ok ((diagF (n + 1) (gram (n + 1) p)).map eF) [.val (eTT p), .val (gD g), .val TT, .non, .non, .non, .non, .non] S := by
    unfold diagF
    rw [List.map_map]
    refine lLc_map (List.range (n + 1)) (fun k : Nat => D.int k) _ (fun k => [.val (eTT p), .val (gD g), .val TT, .non, .non, .val (.int k), .non, .non]) (hit_rng (n := n + 1) (by simp [lT, elT]) (by omega)) (by simp; omega) (fun a _ => rfl) (fun k m => ?_) (fun a _ => rfl) rfl
    obtain ⟨r, i1, i2⟩ := tieF_at (n + 1) (gram (n + 1) p) k (List.mem_range.mp m)
    rw [← hTT] at i1
    have lr : ∀ e, look e S (.tup (r.map eF)) = .tup (r.map eF) := fun _ => rfl
    rw [Function.comp_apply]
    generalize D.tup (r.map eF) = R at *
    generalize eF (tie (n + 1) (gram (n + 1) p) k k) = V at *
    simp only [dB2_ap, dV_ap, List.getElem?_cons_succ, List.getElem?_cons_zero, bind_ok, lT, look_int, i1, lr, i2]
  rw [← hTT] at t1
  unfold lawVal at hv
  dsimp only at hv
  cases g with
  | whole =>
    dsimp only at hv
    have d := m__law_det (S := S) 6 (tieF (n + 1) (gram (n + 1) p)) v (fun r m => by
      obtain ⟨i, _, rfl⟩ := List.mem_map.mp m
      simp; omega) (by simp [tieF]; omega) hv
    have d' : F__law_det [.lst ((tieF (n + 1) (gram (n + 1) p)).map fun r => .lst (r.map eF))] S = .ok (eF v) S := d
    have e1 : opEq (.str [119, 104, 111, 108, 101]) (.str [119, 104, 111, 108, 101]) = some (.bl true) := rfl
    generalize (tieF (n + 1) (gram (n + 1) p)).map (fun r => D.lst (r.map eF)) = Q at *
    generalize eF v = V at *
    generalize eTT p = PP at *
    simp only [gD] at c1 es ⊢
    simp only [F__law_value, fnOf_ap, es, b__law_value, sSeq_ap, sAsg_ap, dCall_ap, aCons_ap, aNil_ap, dV_ap, List.getElem?_cons_succ, List.getElem?_cons_zero, bind_ok, t1, sE_ok, gName_ap, List.set_cons_succ, List.set_cons_zero, sIf_ap, dTest_ap, dB2_ap, dC_ap, look_str, e1, if_true, sRet_ap, dFz_ap, c1, d']
  | sum =>
    dsimp only at hv
    have d := m__law_sum_of (S := S) hv
    have e1 : opEq (.str [115, 117, 109]) (.str [119, 104, 111, 108, 101]) = some (.bl false) := rfl
    have e2 : opEq (.str [115, 117, 109]) (.str [115, 117, 109]) = some (.bl true) := rfl
    generalize (diagF (n + 1) (gram (n + 1) p)).map eF = Q at *
    generalize eF v = V at *
    generalize eTT p = PP at *
    simp only [gD] at c2 es ⊢
    simp only [F__law_value, fnOf_ap, es, b__law_value, sSeq_ap, sAsg_ap, dCall_ap, aCons_ap, aNil_ap, dV_ap, List.getElem?_cons_succ, List.getElem?_cons_zero, bind_ok, t1, sE_ok, gName_ap, List.set_cons_succ, List.set_cons_zero, sIf_ap, dTest_ap, dB2_ap, dC_ap, look_str, e1, e2, Bool.false_eq_true, if_false, if_true, sNext_ap, sRet_ap, dFz_ap, c2, d]
  | worst =>
    dsimp only at hv
    have e1 : opEq (.str [119, 111, 114, 115, 116]) (.str [119, 104, 111, 108, 101]) = some (.bl false) := rfl
    have e2 : opEq (.str [119, 111, 114, 115, 116]) (.str [115, 117, 109]) = some (.bl false) := rfl
    cases hd : diagF (n + 1) (gram (n + 1) p) with
    | nil => rw [hd] at hv; cases hv
    | cons x xs =>
      rw [hd] at hv c2
      dsimp only at hv
      have i0 : opIx (.lst ((x :: xs).map eF)) (.int 0) = some (eF x) := rfl
      obtain ⟨e', h1, o, rfl⟩ := turns_opt (S := S) (g := gName 7) (body := w__law_value_1) eF (fun (b : Fr) e => ∃ o, e = [.val (eTT p), .val (gD .worst), .val TT, .non, .val (.lst ((x :: xs).map eF)), .non, .val (eF b), o]) worstStep (x :: xs) x v
        [.val (eTT p), .val (gD .worst), .val TT, .non, .val (.lst ((x :: xs).map eF)), .non, .val (eF x), .non] ⟨.non, rfl⟩ hv (by
          rintro b e a b' m ⟨o, rfl⟩ hs
          refine ⟨_, [.val (eTT p), .val (gD .worst), .val TT, .non, .val (.lst ((x :: xs).map eF)), .non, .val (eF b'), .val (eF a)], rfl, ?_, .val (eF a), rfl⟩
          unfold worstStep at hs
          generalize D.lst ((x :: xs).map eF) = L
          split at hs
          · rename_i hb
            cases hs
            have := m__law_below (S := S) hb
            generalize eF b = B at *
            generalize eF a = A at *
            simp [w__law_value_1, this]
          · rename_i hb
            cases hs
            have := m__law_below (S := S) hb
            generalize eF b = B at *
            generalize eF a = A at *
            simp [w__law_value_1, this]
          · cases hs)
      have sr : srcD S (.lst ((x :: xs).map eF)) = some ⟨(x :: xs).map eF, []⟩ := rfl
      generalize (x :: xs).map eF = Q at *
      generalize eF x = X0 at *
      generalize eF v = V at *
      generalize eTT p = PP at *
      simp only [gD] at c2 es h1 ⊢
      simp only [F__law_value, fnOf_ap, es, b__law_value, sSeq_ap, sAsg_ap, dCall_ap, aCons_ap, aNil_ap, dV_ap, List.getElem?_cons_succ, List.getElem?_cons_zero, bind_ok, t1, sE_ok, gName_ap, List.set_cons_succ, List.set_cons_zero, sIf_ap, dTest_ap, dB2_ap, dC_ap, look_str, e1, e2, Bool.false_eq_true, if_false, sNext_ap, dFz_ap, c2, look_lst, look_int, i0, sFor_ap, iSeq_ap, sr, h1, sRet_ap]
end
end DL

/-! ML: found_best. -/
set_option linter.all false
set_option maxRecDepth 100000
namespace DL
section
variable {S : Store}
theorem m_check_things (n : Nat) (h1 : 1 ≤ n) (h4 : n ≤ 4) : F_check_things [.int n] S = .ok .non S := by
  have h := m_is_between (S := S) (n : Int) 1 4
  rw [decide_eq_true (show (1 : Int) ≤ (n : Int) by omega), decide_eq_true (show (n : Int) ≤ 4 by omega)] at h
  simp [F_check_things, b_check_things, h]
theorem goal_ok (g : Goal) : opNotIn (gD g) (.tup [.str [115, 117, 109], .str [119, 111, 114, 115, 116], .str [119, 104, 111, 108, 101]]) = some (.bl false) := by cases g <;> rfl
theorem goal_str (g : Goal) : opIsA .str (gD g) = some (.bl true) ∧ ∀ e, look e S (gD g) = gD g := by cases g <;> exact ⟨rfl, fun _ => rfl⟩
def bestOf (n : Nat) (g : Goal) (som : List (List Int)) (m : Nat) : Best := ((idxRows som.length m).map (planOf som)).foldl (bestStep n g) none
theorem m_found_best {n m : Nat} {sD : D} {g : Goal} {som : List (List Int)} {c : Int} (hn : n + 1 ≤ 4) (hm1 : n + 1 ≤ m) (hm8 : m ≤ 8) (hsort : F_check_sort [sD] S = .ok .non S) (hsome : F_single_weighings [.int (n + 1 : Nat), sD] S = .ok (eLT som) S)
    (hc : F_count_of [.int som.length, .int m] S = .ok (.int c) S) (hc2 : c ≤ 3100) (hl : som.length ≤ 1000) (hz : ∀ j, j < m → (idxRows som.length j).length * som.length ≤ 1000000) (hp : ∀ r ∈ idxRows som.length m, IsPlan (n + 1) (planOf som r)) :
    F_found_best [.int (n + 1 : Nat), .int m, sD, gD g] S = .ok (.tup [eB2 (bestOf (n + 1) g som m), eB1 (bestOf (n + 1) g som m)]) S := by
  have es : start 13 [.int (n + 1 : Nat), .int m, sD, gD g] = [.val (.int (n + 1 : Nat)), .val (.int m), .val sD, .val (gD g), .non, .non, .non, .non, .non, .non, .non, .non, .non] := rfl
  have c1 := m_check_things (S := S) (n + 1) (by omega) hn
  have c2 := m_is_between (S := S) (m : Int) ((n + 1 : Nat) : Int) 8
  rw [decide_eq_true (show ((n + 1 : Nat) : Int) ≤ (m : Int) by omega), decide_eq_true (show (m : Int) ≤ 8 by omega)] at c2
  have c3 := goal_ok g
  obtain ⟨c4, c5⟩ := goal_str (S := S) g
  have ls : opLen (eLT som) = some (.int som.length) := by simp
  have lk : ∀ e, look e S (eLT som) = eLT som := fun _ => rfl
  have gt : opGt (.int c) (.int 3100) = some (.bl false) := by rw [opGt_int, decide_eq_false (by omega)]
  -- the rows
  obtain ⟨e1, h1, tm, rfl, htm⟩ := turns_at (S := S) (g := gName 6) (body := w_found_best_1) (fun i : Nat => D.int i) (fun j e => ∃ t, e = [.val (.int (n + 1 : Nat)), .val (.int m), .val sD, .val (gD g), .val (eLT som), .val (.lst ((idxRows som.length j).map eN)), t, .non, .non, .non, .non, .non, .non] ∧ (0 < j → ∃ d, t = .val d)) (List.range m) 0
    [.val (.int (n + 1 : Nat)), .val (.int m), .val sD, .val (gD g), .val (eLT som), .val (.lst [.tup []]), .non, .non, .non, .non, .non, .non, .non] ⟨.non, rfl, fun h => absurd h (by decide)⟩ (by
      rintro j e x hx ⟨t, rfl, _⟩
      obtain ⟨rfl, hj⟩ := range_get hx
      rw [Nat.zero_add]
      refine ⟨_, _, rfl, idx_turn _ _ _ _ (eLT som) (.int x) som.length (idxRows som.length x) ls (fun e => rfl) (hz x hj) (fun r hr => by rw [idx_lens _ x r hr]; omega) hl .non .non .non .non, .val (.int x), rfl, fun _ => ⟨_, rfl⟩⟩)
  rw [Nat.zero_add, List.length_range] at h1
  -- the search
  have h2 : ∃ e', turns [] (gName 7) w_found_best_2 ((idxRows som.length m).map eN) [.val (.int (n + 1 : Nat)), .val (.int m), .val sD, .val (gD g), .val (eLT som), .val (.lst ((idxRows som.length m).map eN)), tm, .non, .non, .val .non, .val .non, .non, .non] S = .nx e' S ∧
      ∃ a b p v, e' = [.val (.int (n + 1 : Nat)), .val (.int m), .val sD, .val (gD g), .val (eLT som), .val (.lst ((idxRows som.length m).map eN)), tm, a, b, .val (eB1 (bestOf (n + 1) g som m)), .val (eB2 (bestOf (n + 1) g som m)), p, v] := by
    obtain ⟨t0, ht0⟩ := htm (by rw [List.length_range]; omega)
    have gen := turns_rel (S := S) (g := gName 7) (body := w_found_best_2) eN (fun (st : Best) e => BestOk st ∧ ∃ a p v, e = [.val (.int (n + 1 : Nat)), .val (.int m), .val sD, .val (gD g), .val (eLT som), .val (.lst ((idxRows som.length m).map eN)), tm, a, .non, .val (eB1 st), .val (eB2 st), p, v])
      (fun st r => bestStep (n + 1) g st (planOf som r)) (idxRows som.length m) none [.val (.int (n + 1 : Nat)), .val (.int m), .val sD, .val (gD g), .val (eLT som), .val (.lst ((idxRows som.length m).map eN)), tm, .non, .non, .val .non, .val .non, .non, .non] ⟨fun b hb => (by cases hb), .non, .non, .non, rfl⟩ (by
        rintro st e r hr ⟨hs, a, p, v, rfl⟩
        refine ⟨_, _, rfl, by rw [ht0]; exact best_turn g st hs som r (idx_mem _ m r hr) (hp r hr) _ _ _ _ t0 .non p v (.inl rfl), bestStep_ok (hp r hr) hs, .val (eN r), _, _, by rw [ht0]⟩)
    obtain ⟨e', k1, k2, a, p, v, rfl⟩ := gen
    refine ⟨_, k1, a, .non, p, v, ?_⟩
    unfold bestOf
    rw [List.foldl_map]
  obtain ⟨e', k1, a, b, p, v, rfl⟩ := h2
  have hr := hit_rng (S := S) (f := dV 1) (n := m) (e := [.val (.int (n + 1 : Nat)), .val (.int m), .val sD, .val (gD g), .val (eLT som), .val (.lst [.tup []]), .non, .non, .non, .non, .non, .non, .non]) rfl (by omega)
  have sr : srcD S (.lst ((idxRows som.length m).map eN)) = some ⟨(idxRows som.length m).map eN, []⟩ := rfl
  generalize (idxRows som.length m).map eN = RR at *
  generalize eLT som = SM at *
  generalize gD g = GG at *
  generalize D.int (n + 1 : Nat) = NN at *
  generalize D.int (m : Int) = MM at *
  generalize eB1 (bestOf (n + 1) g som m) = B1 at *
  generalize eB2 (bestOf (n + 1) g som m) = B2 at *
  simp only [F_found_best, fnOf_ap, es, b_found_best, sSeq_ap, sDrop_ap, sAsg_ap, dCall_ap, aCons_ap, aNil_ap, dV_ap, List.getElem?_cons_succ, List.getElem?_cons_zero, bind_ok, c1, sE_ok, sIf_ap, bNot_ap, bOr_ap, dTest_ap, dC_ap, c2, Bool.and_true, Bool.not_true, Bool.false_eq_true, if_false, sNext_ap, hsort, dB1_ap, dB2_ap, c5, c4, dTup_ap, look_tup, c3, hsome, gName_ap, List.set_cons_succ, List.set_cons_zero, lk, ls, hc, look_int, gt, dFz_ap, sFor_ap]
  rw [hr]
  simp only [sE_ok]
  rw [h1]
  simp only [gTup_ap, List.length_cons, List.length_nil, if_true, gAll_cons, gAll_nil, gName_ap, List.set_cons_succ, List.set_cons_zero, iSeq_ap, dV_ap, List.getElem?_cons_succ, List.getElem?_cons_zero, bind_ok, sr, sE_ok]
  rw [k1]
  simp only [sRet_ap, dTup_ap, aCons_ap, aNil_ap, dV_ap, List.getElem?_cons_succ, List.getElem?_cons_zero, bind_ok, sE_ok]
end
end DL

/-! N3: what rows leave undecided: theory. -/
set_option linter.all false
set_option maxRecDepth 100000
namespace DL
/-- the rows settle all n numbers -/
def Settles (n : Nat) (p : List (List Int)) : Prop := ∀ w : Nat → Int, Ker n p w → ∀ j, j < n → w j = 0
theorem dot_add (n : Nat) (r : List Int) (u v : Nat → Int) (c d : Int) : dot n r (fun j => c * u j + d * v j) = c * dot n r u + d * dot n r v := by
  induction n with
  | zero => simp [dot]
  | succ n ih => unfold dot; rw [ih]; grind
theorem dot_unit (n : Nat) (r : List Int) (p : Nat) (h : p < n) : dot n r (fun j => if j = p then 1 else 0) = at0 r p := by
  induction n with
  | zero => omega
  | succ n ih =>
    unfold dot
    by_cases hp : p = n
    · subst hp
      have : dot p r (fun j => if j = p then 1 else 0) = 0 := by
        have gen : ∀ m, m ≤ p → dot m r (fun j => if j = p then 1 else 0) = 0 := by
          intro m
          induction m with
          | zero => intro _; rfl
          | succ m im =>
            intro hm
            unfold dot
            dsimp only
            rw [im (by omega), if_neg (by omega)]; simp
        exact gen p (Nat.le_refl _)
      dsimp only
      rw [this, if_pos rfl]; simp
    · dsimp only
      rw [ih (by omega), if_neg (by omega)]; simp
theorem dot_single {n : Nat} {r : List Int} {w : Nat → Int} {p : Nat} (hp : p < n) (h : ∀ j, j < n → j ≠ p → at0 r j = 0) : dot n r w = at0 r p * w p := by
  induction n with
  | zero => omega
  | succ n ih =>
    unfold dot
    by_cases e : p = n
    · subst e
      have gen : ∀ m, m ≤ p → dot m r w = 0 := by
        intro m
        induction m with
        | zero => intro _; rfl
        | succ m im =>
          intro hm
          unfold dot
          rw [im (by omega), h m (by omega) (by omega)]; simp
      rw [gen p (Nat.le_refl _)]; simp
    · rw [ih (by omega) (fun j hj => h j (by omega)), h n (by omega) (by omega)]; simp
theorem off_at {n : Nat} {f : List (List Int)} (h : Ech n f) {a b : List Int} (ha : a ∈ f) (hb : b ∈ f) (hne : fp a ≠ fp b) : at0 b (fp a) = 0 := by
  have hp := h.off
  rw [List.pairwise_iff_getElem] at hp
  obtain ⟨i, hi, rfl⟩ := List.getElem_of_mem ha
  obtain ⟨j, hj, rfl⟩ := List.getElem_of_mem hb
  rcases Nat.lt_trichotomy i j with k | k | k
  · exact (hp i j hi hj k).1
  · subst k; exact absurd rfl hne
  · exact (hp j i hj hi k).2
theorem ech_settles {n : Nat} {f : List (List Int)} (h : Ech n f) (hl : f.length = n) : Settles n f := fun w hk j hj => by
  obtain ⟨r, hr, e⟩ := List.mem_map.mp (nodup_full h.fps.1 h.fps.2 (by simpa using hl) hj)
  subst e
  have hd : dot n r w = at0 r (fp r) * w (fp r) := dot_single hj fun i hi hne => by
    obtain ⟨q, hq, e⟩ := List.mem_map.mp (nodup_full h.fps.1 h.fps.2 (by simpa using hl) hi)
    subst e
    exact off_at h hq hr hne
  rw [hk r hr] at hd
  exact (Int.mul_eq_zero.mp hd.symm).resolve_left (fp_ne (h.nz r hr))
theorem ech_ker {n j0 : Nat} (hj : j0 < n) : ∀ {f : List (List Int)}, Ech n f → j0 ∉ f.map fp → ∃ w, Ker n f w ∧ w j0 ≠ 0
  | [], _, _ => ⟨fun _ => 1, by simp [Ker], by simp⟩
  | a :: f, h, hn => by
    have ha := fp_ne (h.nz a List.mem_cons_self)
    have hlt : fp a < n := by have := fp_lt (h.nz a List.mem_cons_self); rw [h.len a List.mem_cons_self] at this; exact this
    have hne : j0 ≠ fp a := fun e => hn (by rw [e]; simp)
    obtain ⟨w, hw, h0⟩ := ech_ker hj h.tail (fun m => hn (by rw [List.map_cons]; exact List.mem_cons_of_mem _ m))
    refine ⟨fun j => at0 a (fp a) * w j + (-(dot n a w)) * (if j = fp a then 1 else 0), fun r hr => ?_, ?_⟩
    · rw [dot_add, dot_unit n r (fp a) hlt]
      rcases List.mem_cons.mp hr with e | e
      · subst e
        rw [Int.mul_comm (-(dot n r w)), Int.mul_neg, Int.add_right_neg]
      · rw [hw r e, ((List.pairwise_cons.mp h.off).1 r e).1]; simp
    · show ¬ (at0 a (fp a) * w j0 + (-(dot n a w)) * (if j0 = fp a then 1 else 0)) = (0 : Int)
      rw [if_neg hne]
      simp only [Int.mul_zero, Int.add_zero]
      exact Int.mul_ne_zero ha h0
theorem exists_free : ∀ {n : Nat} {l : List Nat}, l.length < n → ∃ j, j < n ∧ j ∉ l
  | 0, l, h => by omega
  | n + 1, l, h => by
    by_cases hn : n ∈ l
    · have : (l.erase n).length < n := by
        have h1 := List.length_erase_of_mem hn
        have h2 := List.length_pos_of_mem hn
        omega
      obtain ⟨j, h1, h2⟩ := exists_free this
      exact ⟨j, by omega, fun m => h2 ((List.mem_erase_of_ne (by omega)).mpr m)⟩
    · exact ⟨n, by omega, hn⟩
/-- fewer rows than numbers settle nothing -/
theorem ech_free {n : Nat} {f : List (List Int)} (h : Ech n f) (hl : f.length < n) : ∃ w j, j < n ∧ Ker n f w ∧ w j ≠ 0 := by
  obtain ⟨j, h1, h2⟩ := exists_free (l := f.map fp) (by simpa using hl)
  obtain ⟨w, h3, h4⟩ := ech_ker h1 h h2
  exact ⟨w, j, h1, h3, h4⟩
theorem settled_iff {n : Nat} {p : List (List Int)} (h : ∀ r ∈ p, r.length = n) : settledB n p = true ↔ Settles n p := by
  unfold settledB
  rw [beq_iff_eq]
  constructor
  · intro hl w hk j hj
    exact ech_settles (ind_ech h) hl w ((ind_ker h w).mpr hk) j hj
  · intro hs
    refine Classical.byContradiction fun hne => ?_
    have := (ind_ech h).le
    obtain ⟨w, j, h1, h2, h3⟩ := ech_free (ind_ech h) (by omega)
    exact h3 (hs w ((ind_ker h w).mp h2) j h1)
theorem unsettled {n : Nat} {p : List (List Int)} (h : ∀ r ∈ p, r.length = n) (hs : settledB n p = false) : ∃ w j, j < n ∧ Ker n p w ∧ w j ≠ 0 := by
  unfold settledB at hs
  have hs : ¬ (independent p).length = n := by simpa using hs
  have := (ind_ech h).le
  obtain ⟨w, j, h1, h2, h3⟩ := ech_free (ind_ech h) (by omega)
  exact ⟨w, j, h1, (ind_ker h w).mp h2, h3⟩
theorem ind_len_le (rows : List (List Int)) : (independent rows).length ≤ rows.length := by
  have gen : ∀ (l f : List (List Int)), (l.foldl indep1 f).length ≤ f.length + l.length := by
    intro l
    induction l with
    | nil => intro f; simp
    | cons a l ih =>
      intro f
      rw [List.foldl_cons, List.length_cons]
      have h1 := ih (indep1 f a)
      have h2 : (indep1 f a).length ≤ f.length + 1 := by unfold indep1; split <;> simp
      omega
  have := gen rows []
  unfold independent
  simpa using this
theorem few_unsettled {n : Nat} {p : List (List Int)} (h : ∀ r ∈ p, r.length = n) (hl : p.length < n) : ∃ w j, j < n ∧ Ker n p w ∧ w j ≠ 0 := by
  have h1 := ind_len_le p
  obtain ⟨w, j, h1, h2, h3⟩ := ech_free (ind_ech h) (by omega)
  exact ⟨w, j, h1, (ind_ker h w).mp h2, h3⟩
/-- triangular rows settle -/
def Tri (n : Nat) (p : List (List Int)) : Prop := p.length = n ∧ ∀ i r, p[i]? = some r → at0 r i ≠ 0 ∧ ∀ j, i < j → at0 r j = 0
theorem tri_settles {n : Nat} {p : List (List Int)} (h : Tri n p) : Settles n p := fun w hk => by
  have gen : ∀ m, m ≤ n → ∀ j, j < m → w j = 0 := by
    intro m
    induction m with
    | zero => intro _ j hj; omega
    | succ m ih =>
      intro hm j hj
      by_cases e : j = m
      · subst e
        have hlt : j < p.length := by rw [h.1]; omega
        obtain ⟨t1, t2⟩ := h.2 j p[j] (List.getElem?_eq_getElem hlt)
        have hd := hk p[j] (List.getElem_mem ..)
        have e1 : dot n p[j] w = at0 p[j] j * w j := by
          have g2 : ∀ k, k ≤ n → dot k p[j] w = if j < k then at0 p[j] j * w j else 0 := by
            intro k
            induction k with
            | zero => intro _; rfl
            | succ k ik =>
              intro hk
              unfold dot
              rw [ik (by omega)]
              rcases Nat.lt_trichotomy k j with q | q | q
              · rw [if_neg (by omega), if_neg (by omega), ih (by omega) k q]; simp
              · subst q; rw [if_neg (by omega), if_pos (by omega)]; simp
              · rw [if_pos q, if_pos (by omega), t2 k q]; simp
          rw [g2 n (Nat.le_refl _), if_pos (by omega)]
        rw [e1] at hd
        exact (Int.mul_eq_zero.mp hd).resolve_left t1
      · exact ih (by omega) j (by omega)
  exact gen n (Nat.le_refl _)
theorem Settles.mono {n : Nat} {p q : List (List Int)} (h : Settles n p) (hs : ∀ r ∈ p, r ∈ q) : Settles n q := fun w hk => h w fun r m => hk r (hs r m)
end DL

/-! N4: what the law draws. -/
set_option linter.all false
set_option maxRecDepth 100000
namespace DL
abbrev vP : List (List Int) → D := vT (vT D.int)
theorem vP_eq (p : List (List Int)) : vP p = eTT p := by
  show vT (vT D.int) p = _
  rw [vT_def]
  show D.tup _ = D.tup _
  congr 1
  exact List.map_congr_left fun r _ => vT_def _ r
theorem vTI_eq (r : List Int) : vTI r = eT r := vT_def _ r
theorem vLI_eq (r : List Int) : vLI r = eL r := vL_def _ r
abbrev vLL : List (List Int) → D := vL (vL D.int)
theorem vLL_eq (p : List (List Int)) : vLL p = eLL p := by
  show vL (vL D.int) p = _
  rw [vL_def]
  show D.lst _ = D.lst _
  congr 1
  exact List.map_congr_left fun r _ => vL_def _ r
/-- so far at most k draws; nothing else has changed -/
structure Ps (ns : List Int) (k : Nat) (S S' : Store) : Prop where
  t : Town ns k S'
  len : S'.length = S.length
  rest : ∀ n, n ≠ 0 → S'[n]? = S[n]?
theorem Ps.refl {ns : List Int} {k : Nat} {S : Store} (h : Town ns k S) : Ps ns k S S := ⟨h, rfl, fun _ _ => rfl⟩
theorem Ps.trans {ns : List Int} {j k : Nat} {S S1 S2 : Store} (a : Ps ns j S S1) (b : Ps ns k S1 S2) : Ps ns k S S2 := ⟨b.t, b.len.trans a.len, fun n h => (b.rest n h).trans (a.rest n h)⟩
theorem Ps.mono {ns : List Int} {j k : Nat} {S S1 : Store} (a : Ps ns j S S1) (l : j ≤ k) : Ps ns k S S1 := ⟨a.t.mono l, a.len, a.rest⟩
theorem n_draw {ns : List Int} {k : Nat} {S : Store} (hT : Town ns k S) (hk : k ≤ 1000000) (lim : Int) (h0 : 0 < lim) (h1 : lim ≤ 1000000) (hn : ns.length ≤ 1000) : ∃ x : Nat, ∃ S', F__law_draw [sD ns, .ref 0, .int lim] S = .ok (.int x) S' ∧ (x : Int) < lim ∧ Ps ns (k + 1) S S' := by
  obtain ⟨x, S', h2, h3⟩ := m__law_draw hT hk lim h0 h1 hn
  refine ⟨x.toNat, S', ?_, ?_, h3.t, h3.len, h3.rest⟩
  · rw [h2, Int.toNat_of_nonneg h3.lo]
  · rw [Int.toNat_of_nonneg h3.lo]; exact h3.hi
section
variable {S : Store} {ns : List Int} {k : Nat}
theorem repOk_small {n : Nat} {m : Nat} (h : n ≤ 1000) (hm : m ≤ 1000) : repOk m (n : Int) = true := by
  unfold repOk
  simp only [Bool.and_eq_true, decide_eq_true_eq]; omega
theorem flat_rep {α : Type} (a : α) (n : Nat) : (List.replicate n [a]).flatten = List.replicate n a := by simp
theorem opMul_rep (f : α → D) (a : α) (n : Nat) (h : n ≤ 1000) : opMul (.lst [f a]) (.int (n : Int)) = some (vL f (List.replicate n a)) := by
  rw [opMul_lst, if_pos (repOk_small h (by simp)), Int.toNat_natCast, flat_rep, vL_def, List.map_replicate]
theorem opMul_repT (f : α → D) (a : α) (n : Nat) (h : n ≤ 1000) : opMul (.tup [f a]) (.int (n : Int)) = some (vT f (List.replicate n a)) := by
  rw [opMul_tup, if_pos (repOk_small h (by simp)), Int.toNat_natCast, flat_rep, vT_def, List.map_replicate]
theorem lsMul_rep (f : α → D) (a : α) (n : Nat) (h : n ≤ 1000) : lsMul (.lst [f a]) (.int (n : Int)) = some ((List.replicate n a).map f) := by
  show (if repOk 1 (n : Int) then some (List.replicate (n : Int).toNat [f a]).flatten else none) = _
  rw [if_pos (repOk_small h (by simp)), Int.toNat_natCast, flat_rep, List.map_replicate]
theorem placeOf_nat {n i : Nat} (h : i < n) : placeOf n (i : Int) = some i := by
  unfold placeOf
  rw [if_pos (by omega), if_pos (by omega)]; simp
/-- a list of one's own, in slot 4 -/
theorem isW_set {n x : Nat} (hx : x < n) : isW n ((List.replicate n (0 : Int)).set x 1) = true := by
  unfold isW
  simp only [Bool.and_eq_true, beq_iff_eq, List.all_eq_true, List.any_eq_true, decide_eq_true_eq]
  refine ⟨⟨by simp, fun y hy => ?_⟩, 1, ?_, by decide⟩
  · rcases List.mem_or_eq_of_mem_set hy with h | h
    · have := List.eq_of_mem_replicate h; omega
    · omega
  · exact List.mem_set (by simpa using hx) _
theorem isW_of {n : Nat} {r : List Int} (hl : r.length = n) (h : ∀ x ∈ r, -1 ≤ x ∧ x ≤ 1) (hz : r ≠ List.replicate n 0) : isW n r = true := by
  unfold isW
  simp only [Bool.and_eq_true, beq_iff_eq, List.all_eq_true, List.any_eq_true, decide_eq_true_eq]
  refine ⟨⟨hl, h⟩, Classical.byContradiction fun q => hz ?_⟩
  refine List.eq_replicate_iff.mpr ⟨hl, fun x hx => Classical.byContradiction fun hne => q ⟨x, hx, by simpa using hne⟩⟩
theorem n_weighing {n : Nat} (hT : Town ns k S) (hk : k ≤ 900000) (hn : ns.length ≤ 1000) (h1 : 1 ≤ n) (h4 : n ≤ 4) : ∃ r S', F__law_weighing [sD ns, .ref 0, .int (n : Int)] S = .ok (vTI r) S' ∧ isW n r = true ∧ Ps ns (k + 6) S S' := by
  obtain ⟨x0, S1, d1, l1, p1⟩ := n_draw hT (by omega) 2 (by decide) (by decide) hn
  obtain ⟨low, hlow⟩ : ∃ low : Int, low = (x0 : Int) - 1 := ⟨_, rfl⟩
  have hit := hit_rng (S := S1) (f := dV 2) (n := n) (e := [.val (sD ns), .val (.ref 0), .val (.int (n : Int)), .val (.int low), .non, .non]) rfl (by omega)
  obtain ⟨bs, S2, c1, i1, i2, i3⟩ := lcS (S := S1) (vs := [5]) (g := gName 5) (f := dB2 (dV 3) (dCall F__law_draw (aCons (dV 0) (aCons (dV 1) (aCons (dB2 (dC (.int 2)) (dV 3) opSub) (aNil))))) opAdd) (e := [.val (sD ns), .val (.ref 0), .val (.int (n : Int)), .val (.int low), .non, .non]) (e' := [.val (sD ns), .val (.ref 0), .val (.int (n : Int)), .val (.int low), .non, .non]) (List.range n) (fun i : Nat => D.int i) D.int (fun i => [.val (sD ns), .val (.ref 0), .val (.int (n : Int)), .val (.int low), .non, .val (.int (i : Int))])
    (fun j acc S' => acc.length = j ∧ (∀ x ∈ acc, -1 ≤ x ∧ x ≤ 1) ∧ Ps ns (k + 1 + j) S S') ⟨rfl, by simp, p1⟩ hit (by simp; omega) (fun i _ S => rfl) (by
      rintro j acc S' i hi ⟨q1, q2, q3⟩
      obtain ⟨rfl, hj⟩ := range_get hi
      obtain ⟨x, S3, d2, l2, p2⟩ := n_draw q3.t (by omega) (2 - low) (by omega) (by omega) hn
      refine ⟨low + x, S3, ?_, by rw [List.length_append, q1]; rfl, fun y hy => ?_, q3.trans p2⟩
      · simp [d2]
      · rcases List.mem_append.mp hy with h | h
        · exact q2 y h
        · rw [List.mem_singleton.mp h]; omega) (fun i _ => rfl)
  rw [List.length_range] at i1 i3
  have c1' : c__law_weighing_1 [.val (sD ns), .val (.ref 0), .val (.int (n : Int)), .val (.int low), .non, .non] S1 = .ok (bs.map D.int) [.val (sD ns), .val (.ref 0), .val (.int (n : Int)), .val (.int low), .non, .non] S2 := c1
  have rp := opMul_rep D.int 0 n (by omega)
  have el := lst_map D.int bs
  have eT := tup_map D.int bs
  have hlow' : (x0 : Int) - 1 = low := hlow.symm
  by_cases hz : bs = List.replicate n 0
  · obtain ⟨x, S3, d2, l2, p2⟩ := n_draw i3.t (by omega) (n : Int) (by omega) (by omega) hn
    have pl : placeOf bs.length (x : Int) = some x := placeOf_nat (by omega)
    refine ⟨bs.set x 1, S3, ?_, by rw [hz]; exact isW_set (by omega), (i3.trans p2).mono (by omega)⟩
    have eq1 : opEq (vL D.int bs) (vL D.int (List.replicate n 0)) = some (.bl true) := by rw [opEq_vL, decide_eq_true hz]
    simp [-opEq_vL, F__law_weighing, b__law_weighing, d1, hlow', c1', rp, el, eq1, d2, gSub, putAt, pl, ← List.map_set, tup_map]
  · refine ⟨bs, S2, ?_, isW_of i1 i2 hz, i3.mono (by omega)⟩
    have eq1 : opEq (vL D.int bs) (vL D.int (List.replicate n 0)) = some (.bl false) := by rw [opEq_vL, decide_eq_false hz]
    simp [-opEq_vL, F__law_weighing, b__law_weighing, d1, hlow', c1', rp, el, eq1, eT]
end
end DL

/-! N5: drawn plans, sums. -/
set_option linter.all false
set_option maxRecDepth 100000
namespace DL
section
variable {S : Store} {ns : List Int} {k : Nat}
/-- row i of the start of a settling plan -/
structure TriRow (n i : Nat) (r : List Int) : Prop where
  len : r.length = n
  one : at0 r i = 1
  up : ∀ j, i < j → at0 r j = 0
  bd : ∀ x ∈ r, -1 ≤ x ∧ x ≤ 1
theorem at0_set {r : List Int} {i j : Nat} {x : Int} (hi : i < r.length) : at0 (r.set i x) j = if i = j then x else at0 r j := by
  unfold at0
  by_cases h : i = j
  · subst h
    rw [if_pos rfl, List.getD_eq_getElem?_getD, List.getElem?_set_self hi]; rfl
  · rw [if_neg h, List.getD_eq_getElem?_getD, List.getElem?_set_ne h, ← List.getD_eq_getElem?_getD]
theorem at0_rep (n j : Nat) : at0 (List.replicate n (0 : Int)) j = 0 := by
  unfold at0
  rw [List.getD_eq_getElem?_getD, List.getElem?_replicate]
  split <;> rfl
theorem TriRow.isW {n i : Nat} {r : List Int} (h : TriRow n i r) (hi : i < n) : isW n r = true := by
  refine isW_of h.len h.bd fun e => ?_
  have := h.one
  rw [e, at0_rep] at this
  omega
theorem triRow0 {n i : Nat} (hi : i < n) : TriRow n i ((List.replicate n (0 : Int)).set i 1) where
  len := by simp
  one := by rw [at0_set (by simpa using hi), if_pos rfl]
  up := fun j hj => by rw [at0_set (by simpa using hi), if_neg (by omega), at0_rep]
  bd := fun x hx => by
    rcases List.mem_or_eq_of_mem_set hx with h | h
    · have := List.eq_of_mem_replicate h; omega
    · omega
theorem TriRow.set {n i j : Nat} {r : List Int} {x : Int} (h : TriRow n i r) (hj : j < i) (hi : i < n) (hx : -1 ≤ x ∧ x ≤ 1) : TriRow n i (r.set j x) where
  len := by rw [List.length_set]; exact h.len
  one := by rw [at0_set (by rw [h.len]; omega), if_neg (by omega)]; exact h.one
  up := fun t ht => by rw [at0_set (by rw [h.len]; omega), if_neg (by omega)]; exact h.up t ht
  bd := fun y hy => by
    rcases List.mem_or_eq_of_mem_set hy with q | q
    · exact h.bd y q
    · rw [q]; exact hx
theorem n_settling {n most : Nat} (hT : Town ns k S) (hk : k ≤ 800000) (hn : ns.length ≤ 1000) (h1 : 1 ≤ n) (h4 : n ≤ 4) (hm : most ≤ 100) :
    ∃ p S', F__law_settling [sD ns, .ref 0, .int (n : Int), .int (most : Int)] S = .ok (vP p) S' ∧ IsPlan n p ∧ settledB n p = true ∧ p.length ≤ n + most ∧ n ≤ p.length ∧ Ps ns (k + 100) S S' := by
  -- the start
  obtain ⟨e1, S1, t1, hd, o5, o6, o7, rfl, l1, r1, p1⟩ := forS (g := gName 5) (body := w__law_settling_2) (fun i : Nat => D.int i) (fun j e S' => ∃ (p : List (List Int)) (o5 o6 o7 : Sl), e = [.val (sD ns), .val (.ref 0), .val (.int (n : Int)), .val (.int (most : Int)), .own (p.map vTI), o5, o6, o7, .non] ∧ p.length = j ∧ (∀ i r, p[i]? = some r → TriRow n i r) ∧ Ps ns (k + 4 * j) S S')
    (List.range n) [.val (sD ns), .val (.ref 0), .val (.int (n : Int)), .val (.int (most : Int)), .own [], .non, .non, .non, .non] S ⟨[], .non, .non, .non, rfl, rfl, by simp, .refl hT⟩ (by
      rintro j e S' x hx ⟨p, o5, o6, o7, rfl, hl, hr, hp⟩
      obtain ⟨rfl, hj⟩ := range_get hx
      have rp := lsMul_rep D.int 0 n (by omega)
      have pl : placeOf n (x : Int) = some x := placeOf_nat hj
      -- one row
      obtain ⟨e2, S2, t2, r, o7', rfl, hr2, hp2⟩ := forS (g := gName 7) (body := w__law_settling_1) (fun i : Nat => D.int i) (fun i e S'' => ∃ (r : List Int) (o7 : Sl), e = [.val (sD ns), .val (.ref 0), .val (.int (n : Int)), .val (.int (most : Int)), .own (p.map vTI), .val (.int (x : Int)), .own (r.map D.int), o7, .non] ∧ TriRow n x r ∧ Ps ns (k + 4 * x + i) S S'')
        (List.range x) [.val (sD ns), .val (.ref 0), .val (.int (n : Int)), .val (.int (most : Int)), .own (p.map vTI), .val (.int (x : Int)), .own (((List.replicate n (0 : Int)).set x 1).map D.int), o7, .non] S' ⟨_, o7, rfl, triRow0 hj, hp⟩ (by
          rintro i e S'' y hy ⟨r, o7, rfl, hr, hq⟩
          obtain ⟨rfl, hyx⟩ := range_get hy
          obtain ⟨z, S3, d, hz, hq3⟩ := n_draw hq.t (by omega) 3 (by decide) (by decide) hn
          have pl2 : placeOf r.length (y : Int) = some y := placeOf_nat (by rw [hr.len]; omega)
          refine ⟨_, [.val (sD ns), .val (.ref 0), .val (.int (n : Int)), .val (.int (most : Int)), .own (p.map vTI), .val (.int (x : Int)), .own ((r.set y ((z : Int) - 1)).map D.int), .val (.int (y : Int)), .non], S3, rfl, ?_, r.set y ((z : Int) - 1), .val (.int (y : Int)), rfl, hr.set hyx hj (by omega), hq.trans hq3⟩
          simp [w__law_settling_1, d, gSub, putAt, pl2, List.map_set])
      rw [List.length_range] at hp2
      have hit := hit_rng (S := S') (f := dV 5) (n := x) (e := [.val (sD ns), .val (.ref 0), .val (.int (n : Int)), .val (.int (most : Int)), .own (p.map vTI), .val (.int (x : Int)), .own (((List.replicate n (0 : Int)).set x 1).map D.int), o7, .non]) rfl (by omega)
      refine ⟨_, [.val (sD ns), .val (.ref 0), .val (.int (n : Int)), .val (.int (most : Int)), .own ((p ++ [r]).map vTI), .val (.int (x : Int)), .own (r.map D.int), o7', .non], S2, rfl, ?_, p ++ [r], .val (.int (x : Int)), .own (r.map D.int), o7', rfl, by rw [List.length_append, hl]; rfl, fun i r' hi => ?_, hp2.mono (by omega)⟩
      · have hpl : p.length < 16777216 := by omega
        have e3 : List.map D.int ((List.replicate n (0 : Int)).set x 1) = (List.map D.int (List.replicate n (0 : Int))).set x (D.int 1) := List.map_set ..
        rw [e3] at hit t2
        have pl' : placeOf (List.map D.int (List.replicate n (0 : Int))).length (x : Int) = some x := by rw [List.length_map, List.length_replicate]; exact pl
        generalize List.map D.int (List.replicate n (0 : Int)) = Z at *
        simp only [w__law_settling_2, sSeq_ap, sOwn_ap, dB2F_ap, dFz_ap, aCons_ap, aNil_ap, dC_ap, bind_ok, look_lst, dV_ap, List.getElem?_cons_succ, List.getElem?_cons_zero, look_int, rp, sE_ok, List.set_cons_succ, List.set_cons_zero, sAsg_ap, gSub, dO_ap, putAt, pl', sFor_ap, hit, t2]
        simp [pushAt, hpl, tup_map]
      · rcases Nat.lt_or_ge i p.length with q | q
        · rw [List.getElem?_append_left q] at hi; exact hr i r' hi
        · rw [List.getElem?_append_right q] at hi
          have : i - p.length = 0 := by
            rcases Nat.eq_zero_or_pos (i - p.length) with z | z
            · exact z
            · rw [List.getElem?_eq_none (by simp; omega)] at hi; cases hi
          rw [this] at hi
          cases hi
          have : i = x := by omega
          rw [this]; exact hr2)
  rw [List.length_range] at l1 p1
  have tri : Tri n hd := ⟨l1, fun i r hi => by
    have h := r1 i r hi
    exact ⟨by rw [h.one]; decide, h.up⟩⟩
  have wh : ∀ r ∈ hd, isW n r = true := fun r hr => by
    obtain ⟨i, hi, e⟩ := List.getElem_of_mem hr
    exact (r1 i r (by rw [← e]; exact List.getElem?_eq_getElem hi)).isW (by omega)
  -- the others
  obtain ⟨m, S2, d2, hm2, p2⟩ := n_draw p1.t (by omega) (min (most : Int) (8 - (n : Int)) + 1) (by omega) (by omega) hn
  obtain ⟨e3, S3, t3, tl, o8, rfl, l3, w3, p3⟩ := forS (g := gName 8) (body := w__law_settling_3) (fun i : Nat => D.int i) (fun j e S' => ∃ (q : List (List Int)) (o8 : Sl), e = [.val (sD ns), .val (.ref 0), .val (.int (n : Int)), .val (.int (most : Int)), .own ((hd ++ q).map vTI), o5, o6, o7, o8] ∧ q.length = j ∧ (∀ r ∈ q, isW n r = true) ∧ Ps ns (k + 4 * n + 1 + 6 * j) S S')
    (List.range m) [.val (sD ns), .val (.ref 0), .val (.int (n : Int)), .val (.int (most : Int)), .own (hd.map vTI), o5, o6, o7, .non] S2 ⟨[], .non, by simp, rfl, by simp, p1.trans p2⟩ (by
      rintro j e S' x hx ⟨q, o8, rfl, hl, hw, hp⟩
      obtain ⟨rfl, hj⟩ := range_get hx
      obtain ⟨r, S4, c, wr, hp4⟩ := n_weighing (n := n) hp.t (by omega) hn h1 h4
      refine ⟨_, [.val (sD ns), .val (.ref 0), .val (.int (n : Int)), .val (.int (most : Int)), .own ((hd ++ (q ++ [r])).map vTI), o5, o6, o7, .val (.int (x : Int))], S4, rfl, ?_, q ++ [r], .val (.int (x : Int)), rfl, by rw [List.length_append, hl]; rfl, fun y hy => ?_, (hp.trans hp4).mono (by omega)⟩
      · have hpl : hd.length + q.length < 16777216 := by omega
        simp [w__law_settling_3, c, pushAt, hpl]
      · rcases List.mem_append.mp hy with h | h
        · exact hw y h
        · rw [List.mem_singleton.mp h]; exact wr)
  rw [List.length_range] at l3 p3
  have pl : IsPlan n (hd ++ tl) := ⟨h1, h4, by
    intro z
    have := congrArg List.length z
    rw [List.length_append, List.length_nil] at this
    omega, by rw [List.length_append]; omega, fun r hr => by
    rcases List.mem_append.mp hr with h | h
    · exact wh r h
    · exact w3 r h⟩
  refine ⟨hd ++ tl, S3, ?_, pl, ?_, by rw [List.length_append]; omega, by rw [List.length_append]; omega, p3.mono (by omega)⟩
  · have hit := hit_rng (S := S) (f := dV 2) (n := n) (e := [.val (sD ns), .val (.ref 0), .val (.int (n : Int)), .val (.int (most : Int)), .own [], .non, .non, .non, .non]) rfl (by omega)
    have hit2 := hit_rng (S := S2) (f := dC (.int (m : Int))) (n := m) (e := [.val (sD ns), .val (.ref 0), .val (.int (n : Int)), .val (.int (most : Int)), .own (hd.map vTI), o5, o6, o7, .non]) rfl (by omega)
    rw [iRng1_ap, dC_ap, bind_ok] at hit2
    simp only [F__law_settling, fnOf_ap, start_ap, b__law_settling, List.map_cons, List.map_nil, List.length_cons, List.length_nil, List.cons_append, List.nil_append]
    simp only [show (9 - (0 + 1 + 1 + 1 + 1)) = 5 from rfl, List.replicate, sSeq_ap, sOwn_ap, aNil_ap, sE_ok, List.set_cons_succ, List.set_cons_zero, sFor_ap, hit, t1]
    simp only [iRng1_ap, dCall_ap, aCons_ap, dV_ap, List.getElem?_cons_succ, List.getElem?_cons_zero, bind_ok, dB2_ap, dB2P_ap, dC_ap, look_int, opSub_int, opMin2_int, opAdd_int, aNil_ap, d2]
    dsimp only at hit2 ⊢
    rw [hit2]
    simp only [sE_ok, t3]
    simp
    rw [← List.map_append, tup_map]
  · rw [settled_iff fun r hr => isW_len (pl.w r hr)]
    exact (tri_settles tri).mono fun r hr => List.mem_append_left _ hr
theorem n_pick (hT : Town ns k S) (hk : k ≤ 1000000) (hn : ns.length ≤ 1000) {α : Type} (f : α → D) (xs : List α) (h0 : xs ≠ []) (h1 : xs.length ≤ 1000000) : ∃ a S', a ∈ xs ∧ F__law_pick [sD ns, .ref 0, vL f xs] S = .ok (f a) S' ∧ Ps ns (k + 1) S S' := by
  have hpos : 0 < xs.length := List.length_pos_iff.mpr h0
  obtain ⟨x, S', d, hx, p⟩ := n_draw hT hk (xs.length : Int) (by omega) (by omega) hn
  have hx' : x < xs.length := by omega
  refine ⟨xs[x], S', List.getElem_mem .., ?_, p⟩
  have ix : DL.atI xs (x : Int) = some xs[x] := by rw [atI_nat, List.getElem?_eq_getElem hx']
  simp [F__law_pick, b__law_pick, d, ix]
/-- a sum for n things -/
structure IsSum (n : Nat) (w : List Int) : Prop where
  len : w.length = n
  bd : ∀ x ∈ w, -20 ≤ x ∧ x ≤ 20
  nz : ∃ x ∈ w, x ≠ 0
theorem n_wanted {n : Nat} (hT : Town ns k S) (hk : k ≤ 900000) (hn : ns.length ≤ 1000) (h1 : 1 ≤ n) (h4 : n ≤ 4) : ∃ w S', F__law_wanted [sD ns, .ref 0, .int (n : Int)] S = .ok (vTI w) S' ∧ IsSum n w ∧ Ps ns (k + 6) S S' := by
  obtain ⟨sz, S1, hs, d1, p1⟩ := n_pick hT (by omega) hn vLI [[0, 1], [0, 1, 1, -1], [-20, -3, 0, 1, 7, 20]] (by simp) (by simp)
  have hsz : sz ≠ [] ∧ sz.length ≤ 10 ∧ ∀ x ∈ sz, -20 ≤ x ∧ x ≤ 20 := by
    simp only [List.mem_cons, List.mem_nil_iff, or_false] at hs
    rcases hs with rfl | rfl | rfl <;> decide
  have el : D.lst [D.lst [.int 0, .int 1], D.lst [.int 0, .int 1, .int 1, .int (-1)], D.lst [.int (-20), .int (-3), .int 0, .int 1, .int 7, .int 20]] = vL vLI [[0, 1], [0, 1, 1, -1], [-20, -3, 0, 1, 7, 20]] := by
    show _ = vL (vL D.int) _
    simp [vL_def]
  have hit := hit_rng (S := S1) (f := dV 2) (n := n) (e := [.val (sD ns), .val (.ref 0), .val (.int (n : Int)), .val (vLI sz), .non, .non]) rfl (by omega)
  obtain ⟨bs, S2, c1, i1, i2, i3⟩ := lcS (S := S1) (vs := [5]) (g := gName 5) (f := dCall F__law_pick (aCons (dV 0) (aCons (dV 1) (aCons (dV 3) (aNil))))) (e := [.val (sD ns), .val (.ref 0), .val (.int (n : Int)), .val (vLI sz), .non, .non]) (e' := [.val (sD ns), .val (.ref 0), .val (.int (n : Int)), .val (vLI sz), .non, .non]) (List.range n) (fun i : Nat => D.int i) D.int (fun i => [.val (sD ns), .val (.ref 0), .val (.int (n : Int)), .val (vLI sz), .non, .val (.int (i : Int))])
    (fun j acc S' => acc.length = j ∧ (∀ x ∈ acc, -20 ≤ x ∧ x ≤ 20) ∧ Ps ns (k + 1 + j) S S') ⟨rfl, by simp, p1⟩ hit (by simp; omega) (fun i _ S => rfl) (by
      rintro j acc S' i hi ⟨q1, q2, q3⟩
      obtain ⟨rfl, hj⟩ := range_get hi
      obtain ⟨x, S3, hx, d2, p2⟩ := n_pick q3.t (by omega) hn D.int sz hsz.1 (by omega)
      refine ⟨x, S3, ?_, by rw [List.length_append, q1]; rfl, fun y hy => ?_, q3.trans p2⟩
      · simp [d2]
      · rcases List.mem_append.mp hy with h | h
        · exact q2 y h
        · rw [List.mem_singleton.mp h]; exact hsz.2.2 x hx) (fun i _ => rfl)
  rw [List.length_range] at i1 i3
  have c1' : c__law_wanted_1 [.val (sD ns), .val (.ref 0), .val (.int (n : Int)), .val (vLI sz), .non, .non] S1 = .ok (bs.map D.int) [.val (sD ns), .val (.ref 0), .val (.int (n : Int)), .val (vLI sz), .non, .non] S2 := c1
  have rp := opMul_rep D.int 0 n (by omega)
  have el2 := lst_map D.int bs
  have eT := tup_map D.int bs
  by_cases hz : bs = List.replicate n 0
  · have pl : placeOf bs.length 0 = some 0 := placeOf_nat (i := 0) (by omega)
    refine ⟨bs.set 0 1, S2, ?_, ⟨by rw [List.length_set]; exact i1, fun x hx => ?_, 1, List.mem_set (by omega) _, by decide⟩, i3.mono (by omega)⟩
    · have eq1 : opEq (vL D.int bs) (vL D.int (List.replicate n 0)) = some (.bl true) := by rw [opEq_vL, decide_eq_true hz]
      simp [-opEq_vL, F__law_wanted, b__law_wanted, el, d1, c1', rp, el2, eq1, gSub, putAt, pl, ← List.map_set, tup_map]
    · rcases List.mem_or_eq_of_mem_set hx with h | h
      · exact i2 x h
      · omega
  · refine ⟨bs, S2, ?_, ⟨i1, i2, Classical.byContradiction fun q => hz (List.eq_replicate_iff.mpr ⟨i1, fun x hx => Classical.byContradiction fun hne => q ⟨x, hx, hne⟩⟩)⟩, i3.mono (by omega)⟩
    have eq1 : opEq (vL D.int bs) (vL D.int (List.replicate n 0)) = some (.bl false) := by rw [opEq_vL, decide_eq_false hz]
    simp [-opEq_vL, F__law_wanted, b__law_wanted, el, d1, c1', rp, el2, eq1, eT]
end
end DL

/-! N6: weighings left out; strengths. -/
set_option linter.all false
set_option maxRecDepth 100000
namespace DL
/-- ascending tuples of s numbers below m -/
def nextN (m : Nat) (rows : List (List Nat)) : List (List Nat) := rows.flatMap fun r => ((List.range m).filter fun k => decide (r = []) || decide (r.getLastD 0 < k)).map fun k => r ++ [k]
def someN (m : Nat) : Nat → List (List Nat)
  | 0 => [[]]
  | s + 1 => nextN m (someN m s)
def leftW {α : Type} (p : List α) (ns : List Nat) : List α := (p.zipIdx.filter fun x => !decide (x.2 ∈ ns)).map fun x => x.1
def bare (n : Nat) (p : List (List Int)) (ns : List Nat) : Bool := decide (leftW p ns = []) || !settledB n (leftW p ns)
def foundS (n : Nat) (p : List (List Int)) : Nat := ((List.range p.length).findSome? fun s => if (someN p.length (s + 1)).any (bare n p) then some (s + 1) else none).getD 0
theorem someN_len (m s : Nat) (hm : m ≤ 8) (hs : s ≤ 8) : (someN m s).length ≤ 100 := by
  have : ∀ (m s : Fin 9), (someN m.val s.val).length ≤ 100 := by decide +kernel
  exact this ⟨m, by omega⟩ ⟨s, by omega⟩
theorem someN_each : ∀ (m s : Nat), ∀ r ∈ someN m s, r.length = s ∧ ∀ k ∈ r, k < m
  | m, 0, r, h => by rw [List.mem_singleton.mp h]; simp
  | m, s + 1, r, h => by
    obtain ⟨q, h1, h2⟩ := List.mem_flatMap.mp h
    obtain ⟨k, h3, rfl⟩ := List.mem_map.mp h2
    obtain ⟨h4, h5⟩ := someN_each m s q h1
    refine ⟨by rw [List.length_append, h4]; rfl, fun x hx => ?_⟩
    rcases List.mem_append.mp hx with z | z
    · exact h5 x z
    · rw [List.mem_singleton.mp z]; exact List.mem_range.mp (List.mem_filter.mp h3).1
section
variable {S : Store}
theorem last_vN (r : List Nat) (h : r ≠ []) : opIx (vT vN r) (.int (-1)) = some (vN (r.getLastD 0)) := by
  rw [opIx_vT]
  unfold DL.atI
  have hl : 0 < r.length := List.length_pos_iff.mpr h
  rw [if_neg (by decide), if_pos (by omega)]
  have e1 : ((-1 : Int) + (r.length : Nat)).toNat = r.length - 1 := by omega
  rw [e1, List.getElem?_eq_getElem (by omega)]
  have : r.getLastD 0 = r[r.length - 1] := by rw [List.getLastD_eq_getLast?, List.getLast?_eq_getElem?, List.getElem?_eq_getElem (by omega)]; rfl
  rw [this]; rfl
theorem flat_len2 {α β : Type} (ys : List β) : ∀ xs : List α, (xs.flatMap fun _ => ys).length = xs.length * ys.length
  | [] => by simp
  | x :: xs => by rw [List.flatMap_cons, List.length_append, flat_len2 ys xs, List.length_cons, Nat.succ_mul]; omega
theorem n_some_numbers (m s : Nat) (hm : m ≤ 8) (hs : s ≤ 8) : F_some_numbers [.int (m : Int), .int (s : Int)] S = .ok (vL (vT vN) (someN m s)) S := by
  have c1 : ∀ (t : Sl) (a b : Sl) (j : Nat), j ≤ 8 → c_some_numbers_1 [.val (.int (m : Int)), .val (.int (s : Int)), .val (vL (vT vN) (someN m j)), t, a, b] S = .ok ((someN m (j + 1)).map (vT vN)) [.val (.int (m : Int)), .val (.int (s : Int)), .val (vL (vT vN) (someN m j)), t, nrm a, nrm b] S := by
    intro t a b j hj
    have hl := someN_len m j hm hj
    have e : (someN m (j + 1)).map (vT vN) = (someN m j).flatMap fun r => ((List.range m).filter fun k => decide (r = []) || decide (r.getLastD 0 < k)).map fun k => vT vN (r ++ [k]) := by
      show (nextN m (someN m j)).map _ = _
      unfold nextN
      rw [List.map_flatMap]
      simp [Function.comp_def]
    rw [e]
    refine lc2 (S := S) (e' := [.val (.int (m : Int)), .val (.int (s : Int)), .val (vL (vT vN) (someN m j)), t, nrm a, nrm b]) (someN m j) (vT vN) (fun _ => List.range m) (fun k : Nat => D.int k) _ _ (fun r => [.val (.int (m : Int)), .val (.int (s : Int)), .val (vL (vT vN) (someN m j)), t, .val (vT vN r), .non]) (fun r k => [.val (.int (m : Int)), .val (.int (s : Int)), .val (vL (vT vN) (someN m j)), t, .val (vT vN r), .val (.int (k : Int))])
      (by simp) (by rw [flat_len2, List.length_range]; have := Nat.mul_le_mul hl hm; omega) (fun r _ => rfl) (fun r _ => hit_rng rfl (by omega)) (fun r _ k _ => rfl) (fun r hr k _ => ?_) (fun r hr k _ _ => ?_) (fun r _ k _ => rfl) (fun r _ => rfl)
    · by_cases hz : r = []
      · simp [hz]
      · have e2 := last_vN r hz
        have e3 : decide (((r.getLastD 0 : Nat) : Int) < (k : Int)) = decide (r.getLastD 0 < k) := decide_eq_decide.mpr (by omega)
        generalize r.getLastD 0 = L at *
        simp [hz, e2, e3]
    · have hr := (someN_each m j r hr).1
      have := opAdd_vT1 (f := vN) (xs := r) (y := k) (by omega)
      simp [this]
  obtain ⟨e', h1, o1, o2, o3, rfl⟩ := forA (S := S) (g := gName 3) (body := w_some_numbers_1) (fun i : Nat => D.int i) (fun j e => ∃ o1 o2 o3, e = [.val (.int (m : Int)), .val (.int (s : Int)), .val (vL (vT vN) (someN m j)), o1, o2, o3]) (List.range s) [.val (.int (m : Int)), .val (.int (s : Int)), .val (vL (vT vN) (someN m 0)), .non, .non, .non] ⟨.non, .non, .non, rfl⟩ (by
    rintro j e x hx ⟨o1, o2, o3, rfl⟩
    obtain ⟨rfl, hj⟩ := range_get hx
    refine ⟨_, [.val (.int (m : Int)), .val (.int (s : Int)), .val (vL (vT vN) (someN m (x + 1))), .val (.int (x : Int)), nrm o2, nrm o3], rfl, ?_, _, _, _, rfl⟩
    simp [w_some_numbers_1, c1 _ _ _ x (by omega), lst_map])
  rw [List.length_range] at h1
  have e0 : D.lst [D.tup []] = vL (vT vN) (someN m 0) := by simp [vL_def, vT_def, someN]
  have hit := hit_rng (S := S) (f := dV 1) (n := s) (e := [.val (.int (m : Int)), .val (.int (s : Int)), .val (vL (vT vN) (someN m 0)), .non, .non, .non]) rfl (by omega)
  simp [-iRng1_ap, F_some_numbers, b_some_numbers, e0, hit, h1]
theorem numbered_mapN {α : Type} (f : α → D) : ∀ (xs : List α) (n : Nat), numbered n (xs.map f) = (xs.zipIdx n).map fun p => D.tup [.int (p.2 : Nat), f p.1]
  | [], _ => rfl
  | x :: xs, n => by simp [numbered, numbered_mapN f xs (n + 1)]
theorem n_left_without {α : Type} (f : α → D) (p : List α) (ns : List Nat) (hp : p.length ≤ 1000) : F_left_without [vT f p, vT vN ns] S = .ok (vT f (leftW p ns)) S := by
  have c1 : c_left_without_1 [.val (vT f p), .val (vT vN ns), .non, .non] S = .ok ((p.zipIdx.filter fun x => !decide (x.2 ∈ ns)).map fun x => f x.1) [.val (vT f p), .val (vT vN ns), .non, .non] S :=
    lcF (S := S) (e' := [.val (vT f p), .val (vT vN ns), .non, .non]) p.zipIdx (fun x => D.tup [.int (x.2 : Nat), f x.1]) _ _ (fun x => [.val (vT f p), .val (vT vN ns), .val (f x.1), .val (.int (x.2 : Nat))]) (by simp [numbered_mapN]) (by simp; omega) (fun x _ => rfl)
      (fun x _ => by
        have := notIn_vT vN x.2 ns
        simp only [dTest_ap, dB2_ap, dV_ap, List.getElem?_cons_succ, List.getElem?_cons_zero, bind_ok, look_int, look_vT, this]) (fun x _ _ => by simp) (fun x _ => rfl)
  have e : (p.zipIdx.filter fun x => !decide (x.2 ∈ ns)).map (fun x => f x.1) = (leftW p ns).map f := by unfold leftW; rw [List.map_map]; rfl
  rw [e] at c1
  simp [F_left_without, b_left_without, c1, tup_map]
/-! plans by their new names -/
theorem n_check_plan {n : Nat} {p : List (List Int)} (h : IsPlan n p) : F_check_plan [vP p] S = .ok .non S := by rw [vP_eq]; exact m_check_plan h
theorem n_settle {n : Nat} {p : List (List Int)} (h : IsPlan n p) : F_does_settle [vP p] S = .ok (.bl (settledB n p)) S := by rw [vP_eq]; exact m_settle h
theorem n_settles {n : Nat} {p : List (List Int)} (h : IsPlan n p) : F_settles [vP p] S = .ok (.bl (settledB n p)) S := by rw [vP_eq]; exact m_settles h
theorem n_check_settled {n : Nat} {p : List (List Int)} (h : IsPlan n p) (hs : settledB n p = true) : F_check_settled [vP p] S = .ok .non S := by rw [vP_eq]; exact m_check_settled h hs
theorem leftW_mem {α : Type} {p : List α} {ns : List Nat} {x : α} (h : x ∈ leftW p ns) : x ∈ p := by
  unfold leftW at h
  obtain ⟨y, hy, rfl⟩ := List.mem_map.mp h
  have := List.mem_zipIdx (x := y.1) (i := y.2) (List.mem_filter.mp hy).1
  rw [this.2.2]; exact List.getElem_mem ..
theorem leftW_len {α : Type} (p : List α) (ns : List Nat) : (leftW p ns).length ≤ p.length := by
  unfold leftW
  rw [List.length_map]
  have := List.length_filter_le (fun x : α × Nat => !decide (x.2 ∈ ns)) p.zipIdx
  simpa using this
theorem IsPlan.left {n : Nat} {p : List (List Int)} (h : IsPlan n p) {ns : List Nat} (hne : leftW p ns ≠ []) : IsPlan n (leftW p ns) :=
  ⟨h.n1, h.n4, hne, Nat.le_trans (leftW_len p ns) h.p8, fun r hr => h.w r (leftW_mem hr)⟩
theorem n_found_strength {n : Nat} {p : List (List Int)} (h : IsPlan n p) : F_found_strength [vP p] S = .ok (.int (foundS n p : Nat)) S := by
  have hp8 := h.p8
  -- one set
  have inner : ∀ (s : Nat) (o2 o3 : Sl), s < p.length →
      ((someN p.length (s + 1)).any (bare n p) = true → w_found_strength_2 [.val (vP p), .val (.int ((s + 1 : Nat) : Int)), o2, o3] S = .rt (.int ((s + 1 : Nat) : Int)) S) ∧
      ((someN p.length (s + 1)).any (bare n p) = false → ∃ o2' o3', w_found_strength_2 [.val (vP p), .val (.int ((s + 1 : Nat) : Int)), o2, o3] S = .nx [.val (vP p), .val (.int ((s + 1 : Nat) : Int)), o2', o3'] S) := by
    intro s o2 o3 hs
    have sn := n_some_numbers (S := S) p.length (s + 1) (by omega) (by omega)
    have key := forR (S := S) (g := gName 2) (body := w_found_strength_1) (vT vN) (fun j e => ∃ o2 o3, e = [.val (vP p), .val (.int ((s + 1 : Nat) : Int)), o2, o3]) (fun ns => if bare n p ns then some (.int ((s + 1 : Nat) : Int)) else none) (someN p.length (s + 1)) [.val (vP p), .val (.int ((s + 1 : Nat) : Int)), o2, o3] ⟨o2, o3, rfl⟩ (by
      rintro j e a ha ⟨o2, o3, rfl⟩
      have lw := n_left_without (S := S) (vT D.int) p a (by omega)
      refine ⟨_, rfl, fun d hd => ?_, fun hd => ⟨[.val (vP p), .val (.int ((s + 1 : Nat) : Int)), .val (vT vN a), .val (vP (leftW p a))], ?_, _, _, rfl⟩⟩
      · by_cases hb : bare n p a = true
        · rw [if_pos hb] at hd
          cases hd
          unfold bare at hb
          by_cases hz : leftW p a = []
          · simp [w_found_strength_1, lw, hz]
          · have st := n_settle (S := S) (h.left hz)
            have hb : settledB n (leftW p a) = false := by simpa [hz] using hb
            rw [hb] at st
            simp [w_found_strength_1, lw, hz, st]
        · rw [if_neg hb] at hd; cases hd
      · by_cases hb : bare n p a = true
        · rw [if_pos hb] at hd; cases hd
        · unfold bare at hb
          simp only [Bool.or_eq_true, decide_eq_true_eq, Bool.not_eq_true', not_or, Bool.not_eq_false] at hb
          have st := n_settle (S := S) (h.left hb.1)
          rw [hb.2] at st
          simp [w_found_strength_1, lw, hb.1, st])
    obtain ⟨k1, k2⟩ := key
    have hfor : w_found_strength_2 [.val (vP p), .val (.int ((s + 1 : Nat) : Int)), o2, o3] S = turns [] (gName 2) w_found_strength_1 ((someN p.length (s + 1)).map (vT vN)) [.val (vP p), .val (.int ((s + 1 : Nat) : Int)), o2, o3] S := by
      simp only [w_found_strength_2, sFor_ap, iSeq_ap, dCall_ap, aCons_ap, aNil_ap, dB1_ap, dV_ap, List.getElem?_cons_succ, List.getElem?_cons_zero, bind_ok, look_vT, opLen_vT, sn, srcD_vL, sE_ok]
    refine ⟨fun ha => ?_, fun ha => ?_⟩
    · rw [hfor]
      refine k1 _ ?_
      cases hf : (someN p.length (s + 1)).findSome? (fun ns => if bare n p ns then some (D.int ((s + 1 : Nat) : Int)) else none) with
      | none =>
        rw [List.findSome?_eq_none_iff] at hf
        rw [List.any_eq_true] at ha
        obtain ⟨a, h1, h2⟩ := ha
        have := hf a h1
        rw [if_pos h2] at this; cases this
      | some d =>
        obtain ⟨a, h1, h2⟩ := List.exists_of_findSome?_eq_some hf
        split at h2
        · exact h2.symm
        · cases h2
    · rw [hfor]
      obtain ⟨e', h1, o2', o3', rfl⟩ := k2 (by
        rw [List.findSome?_eq_none_iff]
        intro a hm
        rw [List.any_eq_false] at ha
        rw [if_neg (ha a hm)])
      exact ⟨o2', o3', h1⟩
  have key := forR (S := S) (g := gName 1) (body := w_found_strength_2) (fun i : Nat => D.int (1 + (i : Int))) (fun j e => ∃ o1 o2 o3, e = [.val (vP p), o1, o2, o3]) (fun s => (if (someN p.length (s + 1)).any (bare n p) then some (s + 1) else none).map fun t : Nat => D.int (t : Int)) (List.range p.length) [.val (vP p), .non, .non, .non] ⟨.non, .non, .non, rfl⟩ (by
    rintro j e s hs ⟨o1, o2, o3, rfl⟩
    obtain ⟨rfl, hj⟩ := range_get hs
    have e1 : (1 : Int) + (s : Int) = ((s + 1 : Nat) : Int) := by omega
    rw [e1]
    obtain ⟨i1, i2⟩ := inner s o2 o3 hj
    refine ⟨_, rfl, fun d hd => ?_, fun hd => ?_⟩
    · split at hd
      · rename_i hb
        cases hd
        exact i1 hb
      · cases hd
    · split at hd
      · cases hd
      · rename_i hb
        obtain ⟨o2', o3', h2⟩ := i2 (by simpa using hb)
        exact ⟨_, h2, _, _, _, rfl⟩)
  obtain ⟨k1, k2⟩ := key
  have e2 : rangeOk 1 ((p.length : Int) + 1) = true := by
    unfold rangeOk
    rw [decide_eq_true (by decide), decide_eq_true (Nat.lt_of_le_of_lt (show ((p.length : Int) + 1).natAbs ≤ 9 by omega) (by decide))]; rfl
  have e3 : ((p.length : Int) + 1 - 1).toNat = p.length := by omega
  have e4 : ∀ (g : Nat → Option Nat) (l : List Nat), l.findSome? (fun s => (g s).map fun t : Nat => D.int (t : Int)) = (l.findSome? g).map fun t : Nat => D.int (t : Int) := by
    intro g l
    induction l with
    | nil => rfl
    | cons a l ih =>
      rw [List.findSome?_cons, List.findSome?_cons]
      cases g a with
      | none => exact ih
      | some t => rfl
  rw [e4] at k1 k2
  unfold foundS
  cases hf : (List.range p.length).findSome? (fun s => if (someN p.length (s + 1)).any (bare n p) then some (s + 1) else none) with
  | some t =>
    rw [hf] at k1
    have t1 := k1 _ rfl
    simp [F_found_strength, b_found_strength, e2, e3, rngL, t1]
  | none =>
    rw [hf] at k2
    obtain ⟨e', t1, o1, o2, o3, rfl⟩ := k2 rfl
    simp [F_found_strength, b_found_strength, e2, e3, rngL, t1]
theorem n_strength {n : Nat} {p : List (List Int)} (h : IsPlan n p) (hs : settledB n p = true) : F_strength [vP p] S = .ok (.int (foundS n p : Nat)) S := by
  simp [F_strength, b_strength, n_check_settled h hs, n_found_strength h]
theorem n_seen {n : Nat} {p : List (List Int)} (h : IsPlan n p) (hs : settledB n p = true) : F_seen [vP p] S = .ok (.int ((foundS n p : Nat) - 1)) S := by
  simp [F_seen, b_seen, n_check_settled h hs, n_found_strength h]
end
end DL

/-! N8: solutions of rows with goals: theory. -/
set_option linter.all false
set_option maxRecDepth 100000
namespace DL
def dotR : Nat → List Int → (Nat → Rat) → Rat
  | 0, _, _ => 0
  | n + 1, r, w => dotR n r w + (at0 r n : Rat) * w n
theorem castMul (a b : Int) : ((a * b : Int) : Rat) = (a : Rat) * (b : Rat) := Rat.intCast_mul a b
theorem castSub (a b : Int) : ((a - b : Int) : Rat) = (a : Rat) - (b : Rat) := Rat.intCast_sub a b
theorem castNe {a : Int} (h : a ≠ 0) : (a : Rat) ≠ 0 := fun e => h (Rat.intCast_inj.mp e)
theorem dotR_lin {x a b : List Int} {g c d : Int} (w : Nat → Rat) (h : ∀ j, at0 x j * g = at0 a j * c - d * at0 b j) : ∀ n, dotR n x w * (g : Rat) = dotR n a w * (c : Rat) - (d : Rat) * dotR n b w
  | 0 => by unfold dotR; grind
  | n + 1 => by
    have ih := dotR_lin w h n
    have e : ((at0 x n * g : Int) : Rat) = ((at0 a n * c - d * at0 b n : Int) : Rat) := by rw [h n]
    rw [castSub, castMul, castMul, castMul] at e
    unfold dotR
    grind
theorem dotR_zero {r : List Int} (w : Nat → Rat) (h : ∀ j, at0 r j = 0) : ∀ n, dotR n r w = 0
  | 0 => rfl
  | n + 1 => by unfold dotR; rw [dotR_zero w h n, h n]; grind
def KerR (n : Nat) (rows : List (List Int)) (w : Nat → Rat) : Prop := ∀ r ∈ rows, dotR n r w = 0
theorem mul_zero_of {a b : Rat} (h : a * b = 0) (hb : b ≠ 0) : a = 0 := by
  rcases Rat.mul_eq_zero.mp h with z | z
  · exact z
  · exact absurd z hb
theorem red1_dotR {n : Nat} {row other : List Int} (h1 : row.length = n) (h2 : other.length = n) (ho : nz other = true) {w : Nat → Rat} (hw : dotR n other w = 0) : dotR n (red1 row other) w = 0 ↔ dotR n row w = 0 := by
  obtain ⟨g, c, d, hg, hc, _, e⟩ := red1_mul h1 h2 ho
  have q := dotR_lin w e n
  rw [hw] at q
  constructor
  · intro z
    rw [z] at q
    exact mul_zero_of (b := (c : Rat)) (by grind) (castNe hc)
  · intro z
    rw [z] at q
    exact mul_zero_of (b := (g : Rat)) (by grind) (castNe hg)
theorem reduce_dotR {n : Nat} {w : Nat → Rat} : ∀ {f : List (List Int)} {row : List Int}, (∀ r ∈ f, r.length = n) → (∀ r ∈ f, DL.nz r = true) → row.length = n → KerR n f w → (dotR n (reduce row f) w = 0 ↔ dotR n row w = 0)
  | [], _, _, _, _, _ => Iff.rfl
  | a :: f, row, h1, h2, h3, h4 => by
    have := reduce_dotR (f := f) (row := red1 row a) (fun r m => h1 r (List.mem_cons_of_mem _ m)) (fun r m => h2 r (List.mem_cons_of_mem _ m)) (red1_len h3 (h1 a List.mem_cons_self)) (fun r m => h4 r (List.mem_cons_of_mem _ m))
    exact this.trans (red1_dotR h3 (h1 a List.mem_cons_self) (h2 a List.mem_cons_self) (h4 a List.mem_cons_self))
theorem indep1_kerR {n : Nat} {f : List (List Int)} {row : List Int} {w : Nat → Rat} (h : Ech n f) (hl : row.length = n) : KerR n (indep1 f row) w ↔ KerR n f w ∧ dotR n row w = 0 := by
  unfold indep1
  split
  · rename_i hn
    have lr := reduce_len h.len hl
    constructor
    · intro k
      have k2 : dotR n (reduce row f) w = 0 := k _ (List.mem_append_right _ List.mem_cons_self)
      have k1 : KerR n f w := fun r m => (red1_dotR (h.len r m) lr hn k2).mp (k _ (List.mem_append_left _ (List.mem_map_of_mem m)))
      exact ⟨k1, (reduce_dotR h.len h.nz hl k1).mp k2⟩
    · rintro ⟨k1, k2⟩ r m
      have k3 := (reduce_dotR h.len h.nz hl k1).mpr k2
      rcases List.mem_append.mp m with q | q
      · obtain ⟨x, hx, rfl⟩ := List.mem_map.mp q
        exact (red1_dotR (h.len x hx) lr hn k3).mpr (k1 x hx)
      · rw [List.mem_singleton.mp q]; exact k3
  · rename_i hn
    refine ⟨fun k => ⟨k, (reduce_dotR h.len h.nz hl k).mp (dotR_zero w (zero_of_nz (by simpa using hn)) n)⟩, fun k => k.1⟩
theorem fold_kerR {n : Nat} (w : Nat → Rat) : ∀ {rows f : List (List Int)}, Ech n f → (∀ r ∈ rows, r.length = n) → (KerR n (rows.foldl indep1 f) w ↔ KerR n f w ∧ KerR n rows w)
  | [], f, h, _ => ⟨fun k => ⟨k, by simp [KerR]⟩, fun k => k.1⟩
  | a :: rows, f, h, hl => by
    rw [List.foldl_cons, fold_kerR w (rows := rows) (indep1_ech h (hl a List.mem_cons_self)) (fun r m => hl r (List.mem_cons_of_mem _ m)), indep1_kerR h (hl a List.mem_cons_self)]
    constructor
    · rintro ⟨⟨k1, k2⟩, k3⟩
      refine ⟨k1, fun r m => ?_⟩
      rcases List.mem_cons.mp m with e | e
      · rw [e]; exact k2
      · exact k3 r e
    · rintro ⟨k1, k2⟩
      exact ⟨⟨k1, k2 a List.mem_cons_self⟩, fun r m => k2 r (List.mem_cons_of_mem _ m)⟩
theorem ind_kerR {n : Nat} {rows : List (List Int)} (h : ∀ r ∈ rows, r.length = n) (w : Nat → Rat) : KerR n (independent rows) w ↔ KerR n rows w := by
  have := fold_kerR w (n := n) .nil h
  exact this.trans ⟨fun k => k.2, fun k => ⟨by simp [KerR], k⟩⟩
/-! the solution -/
def qat (x : List Rat) (j : Nat) : Rat := x.getD j 0
theorem qat_set {x : List Rat} {i j : Nat} {v : Rat} (hi : i < x.length) : qat (x.set i v) j = if i = j then v else qat x j := by
  unfold qat
  by_cases h : i = j
  · subst h
    rw [if_pos rfl, List.getD_eq_getElem?_getD, List.getElem?_set_self hi]; rfl
  · rw [if_neg h, List.getD_eq_getElem?_getD, List.getElem?_set_ne h, ← List.getD_eq_getElem?_getD]
theorem qat_rep (n j : Nat) : qat (List.replicate n (0 : Rat)) j = 0 := by
  unfold qat
  rw [List.getD_eq_getElem?_getD, List.getElem?_replicate]
  split <;> rfl
def pval (n : Nat) (r : List Int) : Rat := (at0 r n : Rat) / (at0 r (fp r) : Rat)
def fillIn (n : Nat) (x : List Rat) (r : List Int) : List Rat := x.set (fp r) (pval n r)
def solvedM (n : Nat) (rows : List (List Int)) : Option (List Rat) :=
  if (independent rows).any (fun r => decide (fp r = n)) then none else some ((independent rows).foldl (fillIn n) (List.replicate n 0))
theorem fill_len (n : Nat) : ∀ (l : List (List Int)) (x : List Rat), (l.foldl (fillIn n) x).length = x.length
  | [], _ => rfl
  | a :: l, x => by rw [List.foldl_cons, fill_len n l]; simp [fillIn]
theorem fill_at (n : Nat) : ∀ (l : List (List Int)) (x : List Rat), (l.map fp).Nodup → (∀ r ∈ l, fp r < x.length) → (∀ j, j ∉ l.map fp → qat (l.foldl (fillIn n) x) j = qat x j) ∧ ∀ r ∈ l, qat (l.foldl (fillIn n) x) (fp r) = pval n r
  | [], x, _, _ => by simp
  | a :: l, x, hd, hl => by
    rw [List.map_cons] at hd
    obtain ⟨d1, d2⟩ := List.nodup_cons.mp hd
    obtain ⟨h1, h2⟩ := fill_at n l (fillIn n x a) d2 (fun r m => by unfold fillIn; rw [List.length_set]; exact hl r (List.mem_cons_of_mem _ m))
    have ha := hl a List.mem_cons_self
    refine ⟨fun j hj => ?_, fun r m => ?_⟩
    · rw [List.map_cons, List.mem_cons, not_or] at hj
      rw [List.foldl_cons, h1 j hj.2]
      unfold fillIn
      rw [qat_set ha, if_neg (Ne.symm hj.1)]
    · rw [List.foldl_cons]
      rcases List.mem_cons.mp m with e | e
      · subst e
        rw [h1 _ d1]
        unfold fillIn
        rw [qat_set ha, if_pos rfl]
      · exact h2 r e
theorem dotR_single {n : Nat} {r : List Int} {w : Nat → Rat} {p : Nat} (hp : p < n) (h : ∀ j, j < n → j ≠ p → at0 r j = 0 ∨ w j = 0) : dotR n r w = (at0 r p : Rat) * w p := by
  have zero : ∀ j, j < n → j ≠ p → (at0 r j : Rat) * w j = 0 := fun j h1 h2 => by
    rcases h j h1 h2 with z | z
    · rw [z]; simp
    · rw [z]; simp
  have gen : ∀ m, m ≤ n → dotR m r w = if p < m then (at0 r p : Rat) * w p else 0 := by
    intro m
    induction m with
    | zero => intro _; rfl
    | succ m im =>
      intro hm
      unfold dotR
      rw [im (by omega)]
      rcases Nat.lt_trichotomy m p with q | q | q
      · rw [if_neg (by omega), if_neg (by omega), zero m (by omega) (by omega)]; grind
      · subst q; rw [if_neg (by omega), if_pos (by omega)]; grind
      · rw [if_pos q, if_pos (by omega), zero m (by omega) (by omega)]; grind
  rw [gen n (Nat.le_refl _), if_pos hp]
theorem dotR_congr {n : Nat} {r : List Int} {u v : Nat → Rat} (h : ∀ j, j < n → u j = v j) : dotR n r u = dotR n r v := by
  induction n with
  | zero => rfl
  | succ n ih => unfold dotR; rw [ih fun j hj => h j (by omega), h n (by omega)]
theorem solved_some {n : Nat} {rows : List (List Int)} (hl : ∀ r ∈ rows, r.length = n + 1) {x : List Rat} (hx : solvedM n rows = some x) : x.length = n ∧ ∀ r ∈ rows, dotR n r (qat x) = (at0 r n : Rat) := by
  unfold solvedM at hx
  split at hx
  · cases hx
  · rename_i hn
    injection hx with hx
    have E := ind_ech hl
    have hf : ∀ r ∈ independent rows, fp r < n := fun r m => by
      have h1 := E.fps.2 (fp r) (List.mem_map_of_mem m)
      have h2 : fp r ≠ n := fun e => hn (List.any_eq_true.mpr ⟨r, m, by simpa using e⟩)
      omega
    obtain ⟨f1, f2⟩ := fill_at n (independent rows) (List.replicate n 0) E.fps.1 (fun r m => by rw [List.length_replicate]; exact hf r m)
    have hlen : x.length = n := by rw [← hx, fill_len, List.length_replicate]
    refine ⟨hlen, ?_⟩
    rw [hx] at f1 f2
    have key : KerR (n + 1) (independent rows) (fun j => if j < n then qat x j else -1) := fun r m => by
      unfold dotR
      rw [dotR_congr (v := qat x) (fun j hj => if_pos hj)]
      have hp := fp_ne (E.nz r m)
      have hd : dotR n r (qat x) = (at0 r (fp r) : Rat) * qat x (fp r) := dotR_single (hf r m) fun j hj hne => by
        by_cases hm : j ∈ (independent rows).map fp
        · obtain ⟨q, q1, q2⟩ := List.mem_map.mp hm
          left
          rw [← q2]
          exact off_at E q1 m (by rw [q2]; exact hne)
        · right; rw [f1 j hm, qat_rep]
      rw [hd, f2 r m]
      dsimp only
      rw [if_neg (by omega)]
      unfold pval
      have := castNe hp
      have e : (at0 r (fp r) : Rat) * ((at0 r n : Rat) / (at0 r (fp r) : Rat)) = (at0 r n : Rat) := by rw [Rat.mul_comm]; exact Rat.div_mul_cancel this
      rw [e]
      grind
    have k2 := (ind_kerR hl _).mp key
    intro r m
    have := k2 r m
    unfold dotR at this
    rw [dotR_congr (v := qat x) (fun j hj => if_pos hj)] at this
    dsimp only at this
    rw [if_neg (by omega)] at this
    grind
theorem solved_none {n : Nat} {rows : List (List Int)} (hl : ∀ r ∈ rows, r.length = n + 1) (hx : solvedM n rows = none) (x : Nat → Rat) : ¬ ∀ r ∈ rows, dotR n r x = (at0 r n : Rat) := by
  unfold solvedM at hx
  split at hx
  · rename_i hn
    intro h
    have E := ind_ech hl
    obtain ⟨r, m, hp⟩ := List.any_eq_true.mp hn
    have hp : fp r = n := by simpa using hp
    have k : KerR (n + 1) rows (fun j => if j < n then x j else -1) := fun r m => by
      unfold dotR
      rw [dotR_congr (v := x) (fun j hj => if_pos hj), h r m]
      dsimp only
      rw [if_neg (by omega)]; grind
    have k2 := (ind_kerR hl _).mpr k r m
    unfold dotR at k2
    have z : dotR n r (fun j => if j < n then x j else -1) = 0 := by
      have gen : ∀ m, m ≤ n → dotR m r (fun j => if j < n then x j else -1) = 0 := by
        intro t
        induction t with
        | zero => intro _; rfl
        | succ t it =>
          intro ht
          unfold dotR
          rw [it (by omega), fp_before (r := r) (j := t) (by omega)]; grind
      exact gen n (Nat.le_refl _)
    rw [z] at k2
    dsimp only at k2
    rw [if_neg (by omega)] at k2
    have : (at0 r n : Rat) = 0 := by grind
    have h2 := fp_ne (E.nz r m)
    rw [hp] at h2
    exact castNe h2 this
  · cases hx
/-! n rows that are never 0 together are solved -/
theorem solved_of_ker {n : Nat} {rows : List (List Int)} (hl : ∀ r ∈ rows, r.length = n + 1) (hn : rows.length ≤ n) (hk : ∀ w : Nat → Int, Ker n rows w → ∀ j, j < n → w j = 0) : ∃ x, solvedM n rows = some x := by
  cases hx : solvedM n rows with
  | some x => exact ⟨x, rfl⟩
  | none =>
    exfalso
    unfold solvedM at hx
    split at hx
    · rename_i hy
      have E := ind_ech hl
      obtain ⟨r, m, hp⟩ := List.any_eq_true.mp hy
      have hp : fp r = n := by simpa using hp
      have hle := Nat.le_trans (ind_len_le rows) hn
      obtain ⟨j, j1, j2⟩ := exists_free (l := (independent rows).map fp) (n := n + 1) (by rw [List.length_map]; omega)
      have jn : j < n := by
        have : j ≠ n := fun e => j2 (by rw [e, ← hp]; exact List.mem_map_of_mem m)
        omega
      obtain ⟨w, w1, w2⟩ := ech_ker j1 E j2
      have wn : w n = 0 := by
        have := w1 r m
        have hz : dot (n + 1) r w = at0 r n * w n := dot_single (by omega) fun i hi hne => by
          exact fp_before (r := r) (by omega)
        rw [hz] at this
        have h2 := fp_ne (E.nz r m)
        rw [hp] at h2
        exact (Int.mul_eq_zero.mp this).resolve_left h2
      refine w2 (hk w (fun q mq => ?_) j jn)
      have := (ind_ker hl w).mp w1 q mq
      unfold dot at this
      rw [wn] at this
      simpa using this
    · cases hx
end DL

/-! N9: sums; least squares. -/
set_option linter.all false
set_option maxRecDepth 100000
namespace DL
def sumN : Nat → (Nat → Rat) → Rat
  | 0, _ => 0
  | n + 1, f => sumN n f + f n
theorem sumN_congr {n : Nat} {f g : Nat → Rat} (h : ∀ i, i < n → f i = g i) : sumN n f = sumN n g := by
  induction n with
  | zero => rfl
  | succ n ih => unfold sumN; rw [ih fun i hi => h i (by omega), h n (by omega)]
theorem sumN_zero {n : Nat} {f : Nat → Rat} (h : ∀ i, i < n → f i = 0) : sumN n f = 0 := by
  induction n with
  | zero => rfl
  | succ n ih => unfold sumN; rw [ih fun i hi => h i (by omega), h n (by omega)]; grind
theorem sumN_add (n : Nat) (f g : Nat → Rat) : sumN n (fun i => f i + g i) = sumN n f + sumN n g := by
  induction n with
  | zero => unfold sumN; grind
  | succ n ih => unfold sumN; rw [ih]; grind
theorem sumN_mul (n : Nat) (c : Rat) (f : Nat → Rat) : sumN n (fun i => c * f i) = c * sumN n f := by
  induction n with
  | zero => unfold sumN; grind
  | succ n ih => unfold sumN; rw [ih]; grind
theorem sumN_sub (n : Nat) (f g : Nat → Rat) : sumN n (fun i => f i - g i) = sumN n f - sumN n g := by
  induction n with
  | zero => unfold sumN; grind
  | succ n ih => unfold sumN; rw [ih]; grind
theorem sumN_swap (m n : Nat) (f : Nat → Nat → Rat) : sumN m (fun i => sumN n (fun j => f i j)) = sumN n (fun j => sumN m (fun i => f i j)) := by
  induction m with
  | zero =>
    rw [sumN_zero (n := n) (f := fun j => sumN 0 fun i => f i j) (fun j _ => rfl)]; rfl
  | succ m ih =>
    show sumN m _ + sumN n (fun j => f m j) = sumN n (fun j => sumN m (fun i => f i j) + f m j)
    rw [ih, sumN_add]
theorem sumN_single {n p : Nat} {f : Nat → Rat} (hp : p < n) (h : ∀ i, i < n → i ≠ p → f i = 0) : sumN n f = f p := by
  induction n with
  | zero => omega
  | succ n ih =>
    unfold sumN
    by_cases e : p = n
    · subst e
      rw [sumN_zero fun i hi => h i (by omega) (by omega)]; grind
    · rw [ih (by omega) fun i hi => h i (by omega), h n (by omega) (by omega)]; grind
theorem sq_nonneg (x : Rat) : 0 ≤ x * x := by
  rcases Rat.le_total (a := 0) (b := x) with h | h
  · exact Rat.mul_nonneg h h
  · have : 0 ≤ (-x) * (-x) := Rat.mul_nonneg (by grind) (by grind)
    grind
theorem sumN_nonneg {n : Nat} {f : Nat → Rat} (h : ∀ i, i < n → 0 ≤ f i) : 0 ≤ sumN n f := by
  induction n with
  | zero => unfold sumN; grind
  | succ n ih => unfold sumN; have := ih fun i hi => h i (by omega); have := h n (by omega); grind
theorem sumN_le {n p : Nat} {f : Nat → Rat} (hp : p < n) (h : ∀ i, i < n → 0 ≤ f i) : f p ≤ sumN n f := by
  induction n with
  | zero => omega
  | succ n ih =>
    unfold sumN
    by_cases e : p = n
    · subst e
      have := sumN_nonneg (n := p) (f := f) fun i hi => h i (by omega)
      grind
    · have := ih (by omega) fun i hi => h i (by omega)
      have := h n (by omega)
      grind
theorem sumN_sq {n : Nat} {f : Nat → Rat} (h : sumN n (fun i => f i * f i) = 0) : ∀ i, i < n → f i = 0 := fun i hi => by
  have := sumN_le (f := fun i => f i * f i) hi fun i _ => sq_nonneg (f i)
  have h2 := sq_nonneg (f i)
  have : f i * f i = 0 := by grind
  rcases Rat.mul_eq_zero.mp this with z | z <;> exact z
theorem dotR_sumN (n : Nat) (r : List Int) (w : Nat → Rat) : dotR n r w = sumN n (fun j => (at0 r j : Rat) * w j) := by
  induction n with
  | zero => rfl
  | succ n ih => unfold dotR sumN; rw [ih]
theorem qat_cons0 (x : Rat) (l : List Rat) : qat (x :: l) 0 = x := rfl
theorem list_sumN : ∀ (l : List Rat), l.sum = sumN l.length (qat l) := by
  intro l
  have gen : ∀ k, k ≤ l.length → (l.take k).sum = sumN k (qat l) := by
    intro k
    induction k with
    | zero => intro _; simp [sumN]
    | succ k ih =>
      intro hk
      have e : l[k]? = some (qat l k) := by simp [qat, List.getD, show k < l.length by omega]
      rw [sum_take e, ih (by omega)]; rfl
  have := gen l.length (Nat.le_refl _)
  rwa [List.take_length] at this
theorem qat_get {l : List Rat} {i : Nat} (h : i < l.length) : l[i]? = some (qat l i) := by simp [qat, List.getD, h]
theorem qat_of {l : List Rat} {i : Nat} {x : Rat} (h : l[i]? = some x) : qat l i = x := by simp [qat, List.getD, h]
theorem qat_ext {k l : List Rat} (hl : k.length = l.length) (h : ∀ i, i < l.length → qat k i = qat l i) : k = l := by
  refine List.ext_getElem? fun i => ?_
  by_cases hi : i < l.length
  · rw [qat_get hi, qat_get (by omega), h i hi]
  · rw [List.getElem?_eq_none (by omega), List.getElem?_eq_none (by omega)]
theorem mulQ_sumN {m : Nat} {r : List Int} {q : List Rat} (h1 : r.length = m) (h2 : q.length = m) : dotQ r q = sumN m (fun i => (at0 r i : Rat) * qat q i) := by
  unfold dotQ
  have hl : (mulQ r q).length = m := by unfold mulQ; rw [List.length_zipWith, h1, h2, Nat.min_self]
  rw [list_sumN, hl]
  refine sumN_congr fun i hi => qat_of ?_
  unfold mulQ
  rw [List.getElem?_zipWith, get_getD (by omega), qat_get (by omega)]
theorem sqs_sumN (q : List Rat) : sqs q = sumN q.length (fun i => qat q i * qat q i) := by
  unfold sqs
  have hl : (sqsL q).length = q.length := by simp [sqsL]
  rw [list_sumN, hl]
  refine sumN_congr fun i hi => qat_of ?_
  unfold sqsL
  rw [List.getElem?_map, qat_get hi]; rfl
/-! least squares: the plan p, its row i, its number i j -/
def pa (p : List (List Int)) (i j : Nat) : Rat := (at0 (p.getD i []) j : Rat)
/-- the factor of row i, led to by x -/
def phi (n : Nat) (p : List (List Int)) (x : Nat → Rat) (i : Nat) : Rat := sumN n (fun k => pa p i k * x k)
/-- x leads to factors that tell w -/
def Lead (n : Nat) (p : List (List Int)) (w x : Nat → Rat) : Prop := ∀ j, j < n → sumN p.length (fun i => pa p i j * phi n p x i) = w j
section
variable {n : Nat} {p : List (List Int)} {w v x y : Nat → Rat}
theorem phi_swap (s : Nat → Rat) : sumN p.length (fun i => phi n p x i * s i) = sumN n (fun k => x k * sumN p.length (fun i => pa p i k * s i)) := by
  have e1 : sumN p.length (fun i => phi n p x i * s i) = sumN p.length (fun i => sumN n (fun k => x k * (pa p i k * s i))) := sumN_congr fun i _ => by
    rw [Rat.mul_comm (phi n p x i)]
    unfold phi
    rw [← sumN_mul]
    exact sumN_congr fun k _ => by grind
  rw [e1, sumN_swap]
  exact sumN_congr fun k _ => sumN_mul ..
theorem Lead.orth (s : Nat → Rat) (h : ∀ j, j < n → sumN p.length (fun i => pa p i j * s i) = 0) : sumN p.length (fun i => phi n p x i * s i) = 0 := by
  rw [phi_swap]
  exact sumN_zero fun k hk => by rw [h k hk]; grind
theorem Lead.with (h : Lead n p w x) (y : Nat → Rat) : sumN p.length (fun i => phi n p y i * phi n p x i) = sumN n (fun k => y k * w k) := by
  rw [phi_swap]
  exact sumN_congr fun k hk => by rw [h k hk]
theorem phi_add (a b : Rat) (i : Nat) : phi n p (fun k => a * x k + b * y k) i = a * phi n p x i + b * phi n p y i := by
  unfold phi
  rw [← sumN_mul, ← sumN_mul, ← sumN_add]
  exact sumN_congr fun k _ => by grind
theorem Lead.comb (h : Lead n p w x) (g : Lead n p v y) (a b : Rat) : Lead n p (fun j => a * w j + b * v j) (fun k => a * x k + b * y k) := fun j hj => by
  have e : sumN p.length (fun i => pa p i j * phi n p (fun k => a * x k + b * y k) i) = sumN p.length (fun i => a * (pa p i j * phi n p x i) + b * (pa p i j * phi n p y i)) := sumN_congr fun i _ => by rw [phi_add]; grind
  rw [e, sumN_add, sumN_mul, sumN_mul, h j hj, g j hj]
/-- what leads to nothing is 0 at all rows -/
theorem Lead.zero (h : Lead n p (fun _ => 0) x) : ∀ i, i < p.length → phi n p x i = 0 := by
  have := h.with x
  rw [sumN_zero (n := n) fun k _ => by grind] at this
  exact sumN_sq this
theorem Lead.uniq (h : Lead n p w x) (g : Lead n p w y) : ∀ i, i < p.length → phi n p x i = phi n p y i := fun i hi => by
  have := h.comb g 1 (-1)
  have z : Lead n p (fun _ => 0) (fun k => 1 * x k + (-1) * y k) := fun j hj => by rw [this j hj]; grind
  have := z.zero i hi
  rw [phi_add] at this
  grind
end
/-! rows of a plan as indices -/
theorem pa_get {p : List (List Int)} {i : Nat} {r : List Int} (h : p[i]? = some r) (j : Nat) : pa p i j = (at0 r j : Rat) := by
  unfold pa
  simp [List.getD, h]
theorem phi_get {n : Nat} {p : List (List Int)} {x : Nat → Rat} {i : Nat} {r : List Int} (h : p[i]? = some r) : phi n p x i = dotR n r x := by
  unfold phi
  rw [dotR_sumN]
  exact sumN_congr fun k _ => by rw [pa_get h]
theorem cast_sum : ∀ l : List Int, ((l.sum : Int) : Rat) = (l.map fun z : Int => (z : Rat)).sum
  | [] => rfl
  | a :: l => by rw [List.sum_cons, Rat.intCast_add, List.map_cons, List.sum_cons, cast_sum l]
theorem gram_row {n : Nat} {p : List (List Int)} {j : Nat} (hj : j < n) (x : Nat → Rat) : dotR n ((List.range n).map fun k => (p.map fun r => at0 r j * at0 r k).sum) x = sumN p.length (fun i => pa p i j * phi n p x i) := by
  rw [dotR_sumN]
  have e1 : sumN n (fun k => (at0 ((List.range n).map fun k => (p.map fun r => at0 r j * at0 r k).sum) k : Rat) * x k) = sumN n (fun k => sumN p.length (fun i => x k * (pa p i j * pa p i k))) := sumN_congr fun k hk => by
    have : at0 ((List.range n).map fun k => (p.map fun r => at0 r j * at0 r k).sum) k = (p.map fun r => at0 r j * at0 r k).sum := by simp [at0, List.getD, hk]
    rw [this, cast_sum, List.map_map, list_sumN, List.length_map, Rat.mul_comm, sumN_mul]
    congr 1
    refine sumN_congr fun i hi => qat_of ?_
    rw [List.getElem?_map, List.getElem?_eq_getElem hi]
    simp only [Option.map_some, Function.comp_apply, castMul]
    rw [pa_get (List.getElem?_eq_getElem hi), pa_get (List.getElem?_eq_getElem hi)]
  rw [e1, sumN_swap]
  refine sumN_congr fun i _ => ?_
  unfold phi
  rw [← sumN_mul]
  exact sumN_congr fun k _ => by grind
/-- the rows that are solved -/
def augm (n : Nat) (p : List (List Int)) (w : List Int) : List (List Int) := ((gram n p).zip w).map fun x => x.1 ++ [x.2]
theorem augm_len {n : Nat} {p : List (List Int)} {w : List Int} : ∀ r ∈ augm n p w, r.length = n + 1 := fun r hr => by
  obtain ⟨x, hx, rfl⟩ := List.mem_map.mp hr
  have := (List.of_mem_zip (a := x.1) (b := x.2) hx).1
  obtain ⟨i, _, e⟩ := List.mem_map.mp this
  rw [List.length_append, ← e]; simp
theorem augm_get {n : Nat} {p : List (List Int)} {w : List Int} (hw : w.length = n) {j : Nat} (hj : j < n) : (augm n p w)[j]? = some (((List.range n).map fun k => (p.map fun r => at0 r j * at0 r k).sum) ++ [at0 w j]) := by
  unfold augm gram
  rw [List.getElem?_map, List.getElem?_zip_eq_some (z := (((List.range n).map fun k => (p.map fun r => at0 r j * at0 r k).sum), at0 w j)) |>.mpr]
  · rfl
  · refine ⟨?_, get_getD (by omega)⟩
    rw [List.getElem?_map, List.getElem?_range hj]; rfl
theorem at0_append {r : List Int} {x : Int} {j : Nat} : at0 (r ++ [x]) j = if j < r.length then at0 r j else if j = r.length then x else 0 := by
  unfold at0
  split
  · rename_i h; simp [List.getD, List.getElem?_append_left h]
  · rename_i h
    split
    · rename_i e; subst e; simp [List.getD]
    · rename_i e; simp [List.getD, List.getElem?_append_right (show r.length ≤ j by omega), show ¬ j - r.length = 0 by omega, List.getElem?_eq_none (show [x].length ≤ j - r.length by simp; omega)]
theorem dotR_app {n : Nat} {r : List Int} (h : r.length = n) (x : Int) (w : Nat → Rat) : dotR n (r ++ [x]) w = dotR n r w := by
  rw [dotR_sumN, dotR_sumN]
  exact sumN_congr fun k hk => by rw [at0_append, if_pos (by omega)]
def wat (w : List Int) (j : Nat) : Rat := (at0 w j : Rat)
theorem lead_some {n : Nat} {p : List (List Int)} {w : List Int} (hw : w.length = n) {x : List Rat} (h : solvedM n (augm n p w) = some x) : x.length = n ∧ Lead n p (wat w) (qat x) := by
  obtain ⟨h1, h2⟩ := solved_some augm_len h
  refine ⟨h1, fun j hj => ?_⟩
  have := h2 _ (List.mem_of_getElem? (augm_get (p := p) hw hj))
  rw [dotR_app (by simp), gram_row hj] at this
  rw [this, at0_append, if_neg (by simp), if_pos (by simp)]; rfl
theorem lead_none {n : Nat} {p : List (List Int)} {w : List Int} (hw : w.length = n) (h : solvedM n (augm n p w) = none) (x : Nat → Rat) : ¬ Lead n p (wat w) x := fun hl => by
  refine solved_none augm_len h x fun r hr => ?_
  obtain ⟨j, hj, e⟩ := List.getElem_of_mem hr
  have hj' : j < n := by
    have : (augm n p w).length = n := by simp [augm, gram, hw]
    omega
  have e2 := augm_get (p := p) hw hj'
  rw [List.getElem?_eq_getElem hj, e] at e2
  injection e2 with e2
  rw [e2, dotR_app (by simp), gram_row hj', hl j hj', at0_append, if_neg (by simp), if_pos (by simp)]; rfl
/-! plans that settle -/
def SettlesR (n : Nat) (p : List (List Int)) : Prop := ∀ w : Nat → Rat, KerR n p w → ∀ j, j < n → w j = 0
theorem settledR {n : Nat} {p : List (List Int)} (h : ∀ r ∈ p, r.length = n) (hs : settledB n p = true) : SettlesR n p := fun w hk j hj => by
  have E := ind_ech h
  have hl : (independent p).length = n := by unfold settledB at hs; exact beq_iff_eq.mp hs
  have hk := (ind_kerR h w).mpr hk
  obtain ⟨r, hr, e⟩ := List.mem_map.mp (nodup_full E.fps.1 E.fps.2 (by simpa using hl) hj)
  subst e
  have hd : dotR n r w = (at0 r (fp r) : Rat) * w (fp r) := dotR_single hj fun i hi hne => by
    obtain ⟨q, hq, e⟩ := List.mem_map.mp (nodup_full E.fps.1 E.fps.2 (by simpa using hl) hi)
    subst e
    exact .inl (off_at E hq hr hne)
  rw [hk r hr] at hd
  rcases Rat.mul_eq_zero.mp hd.symm with z | z
  · exact absurd z (castNe (fp_ne (E.nz r hr)))
  · exact z
theorem SettlesR.lead0 {n : Nat} {p : List (List Int)} (h : SettlesR n p) {x : Nat → Rat} (hx : Lead n p (fun _ => 0) x) : ∀ j, j < n → x j = 0 := h x fun r hr => by
  obtain ⟨i, hi, e⟩ := List.getElem_of_mem hr
  have := hx.zero i hi
  rwa [phi_get (by rw [List.getElem?_eq_getElem hi, e])] at this
theorem dot_dotR (n : Nat) (r : List Int) (w : Nat → Int) : ((dot n r w : Int) : Rat) = dotR n r (fun j => (w j : Rat)) := by
  induction n with
  | zero => rfl
  | succ n ih => unfold dot dotR; rw [Rat.intCast_add, castMul, ih]
/-- a plan that settles tells each sum -/
theorem lead_ex {n : Nat} {p : List (List Int)} (h : ∀ r ∈ p, r.length = n) (hs : settledB n p = true) {w : List Int} (hw : w.length = n) : ∃ x, solvedM n (augm n p w) = some x := by
  refine solved_of_ker augm_len (by simp [augm, gram, hw]) fun v hv j hj => ?_
  have : Lead n p (fun _ => 0) (fun j => (v j : Rat)) := fun j hj => by
    have q := hv _ (List.mem_of_getElem? (augm_get (p := p) hw hj))
    have q2 := dot_dotR n (((List.range n).map fun k => (p.map fun r => at0 r j * at0 r k).sum) ++ [at0 w j]) v
    rw [q, dotR_app (by simp), gram_row hj] at q2
    exact q2.symm
  have := (settledR h hs).lead0 this j hj
  exact Rat.intCast_inj.mp this
end DL

/-! N10: small determinants. -/
set_option linter.all false
set_option maxRecDepth 100000
namespace DL
section
variable {α : Type} [Add α] [Sub α] [Mul α]
def m2 (a b c d : α) : α := a * d - b * c
def m3 (a b c d e f g h i : α) : α := a * m2 e f h i - b * m2 d f g i + c * m2 d e g h
def m4 (a b c d e f g h i j k l m n o p : α) : α := a * m3 f g h j k l n o p - b * m3 e g h i k l m o p + c * m3 e f h i j l m n p - d * m3 e f g i j k m n o
end
theorem m2_cast (a b c d : Int) : ((m2 a b c d : Int) : Rat) = m2 (a : Rat) b c d := by simp [m2, castSub, castMul]
theorem m3_cast (a b c d e f g h i : Int) : ((m3 a b c d e f g h i : Int) : Rat) = m3 (a : Rat) b c d e f g h i := by simp [m3, castSub, castMul, Rat.intCast_add, m2_cast]
theorem m4_cast (a b c d e f g h i j k l m n o p : Int) : ((m4 a b c d e f g h i j k l m n o p : Int) : Rat) = m4 (a : Rat) b c d e f g h i j k l m n o p := by simp [m4, castSub, castMul, Rat.intCast_add, m3_cast]
theorem m2_bd {a b c d : Int} (ha : Bd 4 a) (hb : Bd 4 b) (hc : Bd 4 c) (hd : Bd 4 d) : Bd 9 (m2 a b c d) := (ha.mul hd).sub (hb.mul hc)
theorem m3_bd {a b c d e f g h i : Int} (ha : Bd 4 a) (hb : Bd 4 b) (hc : Bd 4 c) (hd : Bd 4 d) (he : Bd 4 e) (hf : Bd 4 f) (hg : Bd 4 g) (hh : Bd 4 h) (hi : Bd 4 i) : Bd 15 (m3 a b c d e f g h i) :=
  ((ha.mul (m2_bd he hf hh hi)).sub (hb.mul (m2_bd hd hf hg hi))).add ((hc.mul (m2_bd hd he hg hh)).mono (by omega))
theorem m4_bd {a b c d e f g h i j k l m n o p : Int} (ha : Bd 4 a) (hb : Bd 4 b) (hc : Bd 4 c) (hd : Bd 4 d) (he : Bd 4 e) (hf : Bd 4 f) (hg : Bd 4 g) (hh : Bd 4 h) (hi : Bd 4 i) (hj : Bd 4 j) (hk : Bd 4 k) (hl : Bd 4 l) (hm : Bd 4 m) (hn : Bd 4 n) (ho : Bd 4 o) (hp : Bd 4 p) : Bd 22 (m4 a b c d e f g h i j k l m n o p) :=
  (((ha.mul (m3_bd hf hg hh hj hk hl hn ho hp)).sub (hb.mul (m3_bd he hg hh hi hk hl hm ho hp))).add ((hc.mul (m3_bd he hf hh hi hj hl hm hn hp)).mono (by omega))).sub ((hd.mul (m3_bd he hf hg hi hj hk hm hn ho)).mono (by omega))
/-! no determinant: something is left undecided -/
theorem k1 {a : Rat} (h : a = 0) : ∃ x : Rat, x ≠ 0 ∧ a * x = 0 := ⟨1, by decide, by rw [h]; grind⟩
theorem sol {a s : Rat} (ha : a ≠ 0) : a * (-s / a) + s = 0 := by
  have : -s / a * a = -s := Rat.div_mul_cancel ha
  grind
theorem cut_zero {a z : Rat} (ha : a ≠ 0) (h : a * z = 0) : z = 0 := by
  rcases Rat.mul_eq_zero.mp h with q | q
  · exact absurd q ha
  · exact q
theorem k2' {a b c d : Rat} (ha : a ≠ 0) (h : m2 a b c d = 0) : ∃ x y : Rat, (x ≠ 0 ∨ y ≠ 0) ∧ a * x + b * y = 0 ∧ c * x + d * y = 0 := by
  obtain ⟨y, h1, h2⟩ := k1 (a := a * d - c * b) (by unfold m2 at h; grind)
  have e := sol (s := b * y) ha
  generalize -(b * y) / a = x at e
  refine ⟨x, y, .inr h1, by grind, cut_zero ha (by grind)⟩
theorem k2 {a b c d : Rat} (h : m2 a b c d = 0) : ∃ x y : Rat, (x ≠ 0 ∨ y ≠ 0) ∧ a * x + b * y = 0 ∧ c * x + d * y = 0 := by
  by_cases ha : a = 0
  · by_cases hc : c = 0
    · exact ⟨1, 0, .inl (by decide), by rw [ha]; grind, by rw [hc]; grind⟩
    · obtain ⟨x, y, h1, h2, h3⟩ := k2' (a := c) (b := d) (c := a) (d := b) hc (by unfold m2 at h ⊢; grind)
      exact ⟨x, y, h1, h3, h2⟩
  · exact k2' ha h
theorem k3' {a b c d e f g h i : Rat} (ha : a ≠ 0) (hm : m3 a b c d e f g h i = 0) : ∃ x y z : Rat, (x ≠ 0 ∨ y ≠ 0 ∨ z ≠ 0) ∧ a * x + b * y + c * z = 0 ∧ d * x + e * y + f * z = 0 ∧ g * x + h * y + i * z = 0 := by
  obtain ⟨y, z, h1, h2, h3⟩ := k2 (a := a * e - d * b) (b := a * f - d * c) (c := a * h - g * b) (d := a * i - g * c) (by
    have : m2 (a * e - d * b) (a * f - d * c) (a * h - g * b) (a * i - g * c) = a * m3 a b c d e f g h i := by unfold m3 m2; grind
    rw [this, hm]; grind)
  have e1 := sol (s := b * y + c * z) ha
  generalize -(b * y + c * z) / a = x at e1
  exact ⟨x, y, z, .inr h1, by grind, cut_zero ha (by grind), cut_zero ha (by grind)⟩
theorem k3 {a b c d e f g h i : Rat} (hm : m3 a b c d e f g h i = 0) : ∃ x y z : Rat, (x ≠ 0 ∨ y ≠ 0 ∨ z ≠ 0) ∧ a * x + b * y + c * z = 0 ∧ d * x + e * y + f * z = 0 ∧ g * x + h * y + i * z = 0 := by
  by_cases ha : a = 0
  · by_cases hd : d = 0
    · by_cases hg : g = 0
      · exact ⟨1, 0, 0, .inl (by decide), by rw [ha]; grind, by rw [hd]; grind, by rw [hg]; grind⟩
      · obtain ⟨x, y, z, h1, h2, h3, h4⟩ := k3' (a := g) (b := h) (c := i) (d := d) (e := e) (f := f) (g := a) (h := b) (i := c) hg (by unfold m3 m2 at hm ⊢; grind)
        exact ⟨x, y, z, h1, h4, h3, h2⟩
    · obtain ⟨x, y, z, h1, h2, h3, h4⟩ := k3' (a := d) (b := e) (c := f) (d := a) (e := b) (f := c) (g := g) (h := h) (i := i) hd (by unfold m3 m2 at hm ⊢; grind)
      exact ⟨x, y, z, h1, h3, h2, h4⟩
  · exact k3' ha hm
theorem k4' {a b c d e f g h i j k l m n o p : Rat} (ha : a ≠ 0) (hm : m4 a b c d e f g h i j k l m n o p = 0) : ∃ x y z u : Rat, (x ≠ 0 ∨ y ≠ 0 ∨ z ≠ 0 ∨ u ≠ 0) ∧ a * x + b * y + c * z + d * u = 0 ∧ e * x + f * y + g * z + h * u = 0 ∧ i * x + j * y + k * z + l * u = 0 ∧ m * x + n * y + o * z + p * u = 0 := by
  obtain ⟨y, z, u, h1, h2, h3, h4⟩ := k3 (a := a * f - e * b) (b := a * g - e * c) (c := a * h - e * d) (d := a * j - i * b) (e := a * k - i * c) (f := a * l - i * d) (g := a * n - m * b) (h := a * o - m * c) (i := a * p - m * d) (by
    have : m3 (a * f - e * b) (a * g - e * c) (a * h - e * d) (a * j - i * b) (a * k - i * c) (a * l - i * d) (a * n - m * b) (a * o - m * c) (a * p - m * d) = a * a * m4 a b c d e f g h i j k l m n o p := by unfold m4 m3 m2; grind
    rw [this, hm]; grind)
  have e1 := sol (s := b * y + c * z + d * u) ha
  generalize -(b * y + c * z + d * u) / a = x at e1
  exact ⟨x, y, z, u, .inr h1, by grind, cut_zero ha (by grind), cut_zero ha (by grind), cut_zero ha (by grind)⟩
theorem k4 {a b c d e f g h i j k l m n o p : Rat} (hm : m4 a b c d e f g h i j k l m n o p = 0) : ∃ x y z u : Rat, (x ≠ 0 ∨ y ≠ 0 ∨ z ≠ 0 ∨ u ≠ 0) ∧ a * x + b * y + c * z + d * u = 0 ∧ e * x + f * y + g * z + h * u = 0 ∧ i * x + j * y + k * z + l * u = 0 ∧ m * x + n * y + o * z + p * u = 0 := by
  by_cases ha : a = 0
  · by_cases he : e = 0
    · by_cases hi : i = 0
      · by_cases hm0 : m = 0
        · exact ⟨1, 0, 0, 0, .inl (by decide), by rw [ha]; grind, by rw [he]; grind, by rw [hi]; grind, by rw [hm0]; grind⟩
        · obtain ⟨x, y, z, u, h1, h2, h3, h4, h5⟩ := k4' (a := m) (b := n) (c := o) (d := p) (e := e) (f := f) (g := g) (h := h) (i := i) (j := j) (k := k) (l := l) (m := a) (n := b) (o := c) (p := d) hm0 (by unfold m4 m3 m2 at hm ⊢; grind)
          exact ⟨x, y, z, u, h1, h5, h3, h4, h2⟩
      · obtain ⟨x, y, z, u, h1, h2, h3, h4, h5⟩ := k4' (a := i) (b := j) (c := k) (d := l) (e := e) (f := f) (g := g) (h := h) (i := a) (j := b) (k := c) (l := d) (m := m) (n := n) (o := o) (p := p) hi (by unfold m4 m3 m2 at hm ⊢; grind)
        exact ⟨x, y, z, u, h1, h4, h3, h2, h5⟩
    · obtain ⟨x, y, z, u, h1, h2, h3, h4, h5⟩ := k4' (a := e) (b := f) (c := g) (d := h) (e := a) (f := b) (g := c) (h := d) (i := i) (j := j) (k := k) (l := l) (m := m) (n := n) (o := o) (p := p) he (by unfold m4 m3 m2 at hm ⊢; grind)
      exact ⟨x, y, z, u, h1, h3, h2, h4, h5⟩
  · exact k4' ha hm
/-! the determinant of n rows, its parts -/
def detE (n : Nat) (g : Nat → Nat → Int) : Int := match n with
  | 0 => 1
  | 1 => g 0 0
  | 2 => m2 (g 0 0) (g 0 1) (g 1 0) (g 1 1)
  | 3 => m3 (g 0 0) (g 0 1) (g 0 2) (g 1 0) (g 1 1) (g 1 2) (g 2 0) (g 2 1) (g 2 2)
  | _ => m4 (g 0 0) (g 0 1) (g 0 2) (g 0 3) (g 1 0) (g 1 1) (g 1 2) (g 1 3) (g 2 0) (g 2 1) (g 2 2) (g 2 3) (g 3 0) (g 3 1) (g 3 2) (g 3 3)
/-- part (-1)^(i+j) times the determinant without row i, column j -/
def cofE (n : Nat) (g : Nat → Nat → Int) (i j : Nat) : Int := match n, i, j with
  | 1, 0, 0 => 1
  | 2, 0, 0 => g 1 1
  | 2, 0, 1 => -(g 1 0)
  | 2, 1, 0 => -(g 0 1)
  | 2, 1, 1 => g 0 0
  | 3, 0, 0 => m2 (g 1 1) (g 1 2) (g 2 1) (g 2 2)
  | 3, 0, 1 => -(m2 (g 1 0) (g 1 2) (g 2 0) (g 2 2))
  | 3, 0, 2 => m2 (g 1 0) (g 1 1) (g 2 0) (g 2 1)
  | 3, 1, 0 => -(m2 (g 0 1) (g 0 2) (g 2 1) (g 2 2))
  | 3, 1, 1 => m2 (g 0 0) (g 0 2) (g 2 0) (g 2 2)
  | 3, 1, 2 => -(m2 (g 0 0) (g 0 1) (g 2 0) (g 2 1))
  | 3, 2, 0 => m2 (g 0 1) (g 0 2) (g 1 1) (g 1 2)
  | 3, 2, 1 => -(m2 (g 0 0) (g 0 2) (g 1 0) (g 1 2))
  | 3, 2, 2 => m2 (g 0 0) (g 0 1) (g 1 0) (g 1 1)
  | 4, 0, 0 => m3 (g 1 1) (g 1 2) (g 1 3) (g 2 1) (g 2 2) (g 2 3) (g 3 1) (g 3 2) (g 3 3)
  | 4, 0, 1 => -(m3 (g 1 0) (g 1 2) (g 1 3) (g 2 0) (g 2 2) (g 2 3) (g 3 0) (g 3 2) (g 3 3))
  | 4, 0, 2 => m3 (g 1 0) (g 1 1) (g 1 3) (g 2 0) (g 2 1) (g 2 3) (g 3 0) (g 3 1) (g 3 3)
  | 4, 0, 3 => -(m3 (g 1 0) (g 1 1) (g 1 2) (g 2 0) (g 2 1) (g 2 2) (g 3 0) (g 3 1) (g 3 2))
  | 4, 1, 0 => -(m3 (g 0 1) (g 0 2) (g 0 3) (g 2 1) (g 2 2) (g 2 3) (g 3 1) (g 3 2) (g 3 3))
  | 4, 1, 1 => m3 (g 0 0) (g 0 2) (g 0 3) (g 2 0) (g 2 2) (g 2 3) (g 3 0) (g 3 2) (g 3 3)
  | 4, 1, 2 => -(m3 (g 0 0) (g 0 1) (g 0 3) (g 2 0) (g 2 1) (g 2 3) (g 3 0) (g 3 1) (g 3 3))
  | 4, 1, 3 => m3 (g 0 0) (g 0 1) (g 0 2) (g 2 0) (g 2 1) (g 2 2) (g 3 0) (g 3 1) (g 3 2)
  | 4, 2, 0 => m3 (g 0 1) (g 0 2) (g 0 3) (g 1 1) (g 1 2) (g 1 3) (g 3 1) (g 3 2) (g 3 3)
  | 4, 2, 1 => -(m3 (g 0 0) (g 0 2) (g 0 3) (g 1 0) (g 1 2) (g 1 3) (g 3 0) (g 3 2) (g 3 3))
  | 4, 2, 2 => m3 (g 0 0) (g 0 1) (g 0 3) (g 1 0) (g 1 1) (g 1 3) (g 3 0) (g 3 1) (g 3 3)
  | 4, 2, 3 => -(m3 (g 0 0) (g 0 1) (g 0 2) (g 1 0) (g 1 1) (g 1 2) (g 3 0) (g 3 1) (g 3 2))
  | 4, 3, 0 => -(m3 (g 0 1) (g 0 2) (g 0 3) (g 1 1) (g 1 2) (g 1 3) (g 2 1) (g 2 2) (g 2 3))
  | 4, 3, 1 => m3 (g 0 0) (g 0 2) (g 0 3) (g 1 0) (g 1 2) (g 1 3) (g 2 0) (g 2 2) (g 2 3)
  | 4, 3, 2 => -(m3 (g 0 0) (g 0 1) (g 0 3) (g 1 0) (g 1 1) (g 1 3) (g 2 0) (g 2 1) (g 2 3))
  | 4, 3, 3 => m3 (g 0 0) (g 0 1) (g 0 2) (g 1 0) (g 1 1) (g 1 2) (g 2 0) (g 2 1) (g 2 2)
  | _, _, _ => 0
section
variable {g : Nat → Nat → Int}
theorem detE_bd {n : Nat} (h : ∀ i j, Bd 4 (g i j)) (h4 : n ≤ 4) : Bd 22 (detE n g) := by
  have : n = 0 ∨ n = 1 ∨ n = 2 ∨ n = 3 ∨ n = 4 := by omega
  rcases this with rfl | rfl | rfl | rfl | rfl
  · show Bd 22 1
    exact Bd.mono (i := 1) (by unfold Bd; decide) (by omega)
  · exact (h 0 0).mono (by omega)
  · exact (m2_bd (h _ _) (h _ _) (h _ _) (h _ _)).mono (by omega)
  · exact (m3_bd (h _ _) (h _ _) (h _ _) (h _ _) (h _ _) (h _ _) (h _ _) (h _ _) (h _ _)).mono (by omega)
  · exact m4_bd (h _ _) (h _ _) (h _ _) (h _ _) (h _ _) (h _ _) (h _ _) (h _ _) (h _ _) (h _ _) (h _ _) (h _ _) (h _ _) (h _ _) (h _ _) (h _ _)
theorem lt4 {n : Nat} (h1 : 1 ≤ n) (h4 : n ≤ 4) : n = 1 ∨ n = 2 ∨ n = 3 ∨ n = 4 := by omega
theorem one_bd : Bd 15 1 := Bd.mono (i := 1) (by unfold Bd; decide) (by omega)
theorem cofE_bd {n i j : Nat} (h : ∀ i j, Bd 4 (g i j)) (h1 : 1 ≤ n) (h4 : n ≤ 4) (hi : i < n) (hj : j < n) : Bd 15 (cofE n g i j) := by
  rcases lt4 h1 h4 with rfl | rfl | rfl | rfl
  · have a : i = 0 := by omega
    have b : j = 0 := by omega
    rcases a with rfl <;> rcases b with rfl <;> exact one_bd
  · have a : i = 0 ∨ i = 1 := by omega
    have b : j = 0 ∨ j = 1 := by omega
    rcases a with rfl | rfl <;> rcases b with rfl | rfl <;> first | exact (h _ _).mono (by omega) | exact (h _ _).neg.mono (by omega)
  · have a : i = 0 ∨ i = 1 ∨ i = 2 := by omega
    have b : j = 0 ∨ j = 1 ∨ j = 2 := by omega
    rcases a with rfl | rfl | rfl <;> rcases b with rfl | rfl | rfl <;> first | exact (m2_bd (h _ _) (h _ _) (h _ _) (h _ _)).mono (by omega) | exact (m2_bd (h _ _) (h _ _) (h _ _) (h _ _)).neg.mono (by omega)
  · have a : i = 0 ∨ i = 1 ∨ i = 2 ∨ i = 3 := by omega
    have b : j = 0 ∨ j = 1 ∨ j = 2 ∨ j = 3 := by omega
    rcases a with rfl | rfl | rfl | rfl <;> rcases b with rfl | rfl | rfl | rfl <;> first | exact m3_bd (h _ _) (h _ _) (h _ _) (h _ _) (h _ _) (h _ _) (h _ _) (h _ _) (h _ _) | exact (m3_bd (h _ _) (h _ _) (h _ _) (h _ _) (h _ _) (h _ _) (h _ _) (h _ _) (h _ _)).neg
/-- equations solved by parts -/
theorem cr_1_0 {x w : Nat → Rat} (h : ∀ i, i < 1 → sumN 1 (fun k => (g i k : Rat) * x k) = w i) : (detE 1 g : Rat) * x 0 = sumN 1 (fun i => (cofE 1 g i 0 : Rat) * w i) := by
  have h0 := h 0 (by omega)
  simp only [sumN, detE, cofE, Rat.intCast_neg, m2_cast, m3_cast, m4_cast] at *
  rw [← h0]
  generalize (g 0 0 : Rat) = g00
  skip
  grind
theorem cr_2_0 {x w : Nat → Rat} (h : ∀ i, i < 2 → sumN 2 (fun k => (g i k : Rat) * x k) = w i) : (detE 2 g : Rat) * x 0 = sumN 2 (fun i => (cofE 2 g i 0 : Rat) * w i) := by
  have h0 := h 0 (by omega)
  have h1 := h 1 (by omega)
  simp only [sumN, detE, cofE, Rat.intCast_neg, m2_cast, m3_cast, m4_cast] at *
  rw [← h0, ← h1]
  generalize (g 0 0 : Rat) = g00
  generalize (g 0 1 : Rat) = g01
  generalize (g 1 0 : Rat) = g10
  generalize (g 1 1 : Rat) = g11
  simp only [m2, m3, m4]
  grind
theorem cr_2_1 {x w : Nat → Rat} (h : ∀ i, i < 2 → sumN 2 (fun k => (g i k : Rat) * x k) = w i) : (detE 2 g : Rat) * x 1 = sumN 2 (fun i => (cofE 2 g i 1 : Rat) * w i) := by
  have h0 := h 0 (by omega)
  have h1 := h 1 (by omega)
  simp only [sumN, detE, cofE, Rat.intCast_neg, m2_cast, m3_cast, m4_cast] at *
  rw [← h0, ← h1]
  generalize (g 0 0 : Rat) = g00
  generalize (g 0 1 : Rat) = g01
  generalize (g 1 0 : Rat) = g10
  generalize (g 1 1 : Rat) = g11
  simp only [m2, m3, m4]
  grind
theorem cr_3_0 {x w : Nat → Rat} (h : ∀ i, i < 3 → sumN 3 (fun k => (g i k : Rat) * x k) = w i) : (detE 3 g : Rat) * x 0 = sumN 3 (fun i => (cofE 3 g i 0 : Rat) * w i) := by
  have h0 := h 0 (by omega)
  have h1 := h 1 (by omega)
  have h2 := h 2 (by omega)
  simp only [sumN, detE, cofE, Rat.intCast_neg, m2_cast, m3_cast, m4_cast] at *
  rw [← h0, ← h1, ← h2]
  generalize (g 0 0 : Rat) = g00
  generalize (g 0 1 : Rat) = g01
  generalize (g 0 2 : Rat) = g02
  generalize (g 1 0 : Rat) = g10
  generalize (g 1 1 : Rat) = g11
  generalize (g 1 2 : Rat) = g12
  generalize (g 2 0 : Rat) = g20
  generalize (g 2 1 : Rat) = g21
  generalize (g 2 2 : Rat) = g22
  simp only [m2, m3, m4]
  grind
theorem cr_3_1 {x w : Nat → Rat} (h : ∀ i, i < 3 → sumN 3 (fun k => (g i k : Rat) * x k) = w i) : (detE 3 g : Rat) * x 1 = sumN 3 (fun i => (cofE 3 g i 1 : Rat) * w i) := by
  have h0 := h 0 (by omega)
  have h1 := h 1 (by omega)
  have h2 := h 2 (by omega)
  simp only [sumN, detE, cofE, Rat.intCast_neg, m2_cast, m3_cast, m4_cast] at *
  rw [← h0, ← h1, ← h2]
  generalize (g 0 0 : Rat) = g00
  generalize (g 0 1 : Rat) = g01
  generalize (g 0 2 : Rat) = g02
  generalize (g 1 0 : Rat) = g10
  generalize (g 1 1 : Rat) = g11
  generalize (g 1 2 : Rat) = g12
  generalize (g 2 0 : Rat) = g20
  generalize (g 2 1 : Rat) = g21
  generalize (g 2 2 : Rat) = g22
  simp only [m2, m3, m4]
  grind
theorem cr_3_2 {x w : Nat → Rat} (h : ∀ i, i < 3 → sumN 3 (fun k => (g i k : Rat) * x k) = w i) : (detE 3 g : Rat) * x 2 = sumN 3 (fun i => (cofE 3 g i 2 : Rat) * w i) := by
  have h0 := h 0 (by omega)
  have h1 := h 1 (by omega)
  have h2 := h 2 (by omega)
  simp only [sumN, detE, cofE, Rat.intCast_neg, m2_cast, m3_cast, m4_cast] at *
  rw [← h0, ← h1, ← h2]
  generalize (g 0 0 : Rat) = g00
  generalize (g 0 1 : Rat) = g01
  generalize (g 0 2 : Rat) = g02
  generalize (g 1 0 : Rat) = g10
  generalize (g 1 1 : Rat) = g11
  generalize (g 1 2 : Rat) = g12
  generalize (g 2 0 : Rat) = g20
  generalize (g 2 1 : Rat) = g21
  generalize (g 2 2 : Rat) = g22
  simp only [m2, m3, m4]
  grind
theorem cr_4_0 {x w : Nat → Rat} (h : ∀ i, i < 4 → sumN 4 (fun k => (g i k : Rat) * x k) = w i) : (detE 4 g : Rat) * x 0 = sumN 4 (fun i => (cofE 4 g i 0 : Rat) * w i) := by
  have h0 := h 0 (by omega)
  have h1 := h 1 (by omega)
  have h2 := h 2 (by omega)
  have h3 := h 3 (by omega)
  simp only [sumN, detE, cofE, Rat.intCast_neg, m2_cast, m3_cast, m4_cast] at *
  rw [← h0, ← h1, ← h2, ← h3]
  generalize (g 0 0 : Rat) = g00
  generalize (g 0 1 : Rat) = g01
  generalize (g 0 2 : Rat) = g02
  generalize (g 0 3 : Rat) = g03
  generalize (g 1 0 : Rat) = g10
  generalize (g 1 1 : Rat) = g11
  generalize (g 1 2 : Rat) = g12
  generalize (g 1 3 : Rat) = g13
  generalize (g 2 0 : Rat) = g20
  generalize (g 2 1 : Rat) = g21
  generalize (g 2 2 : Rat) = g22
  generalize (g 2 3 : Rat) = g23
  generalize (g 3 0 : Rat) = g30
  generalize (g 3 1 : Rat) = g31
  generalize (g 3 2 : Rat) = g32
  generalize (g 3 3 : Rat) = g33
  simp only [m2, m3, m4]
  grind
theorem cr_4_1 {x w : Nat → Rat} (h : ∀ i, i < 4 → sumN 4 (fun k => (g i k : Rat) * x k) = w i) : (detE 4 g : Rat) * x 1 = sumN 4 (fun i => (cofE 4 g i 1 : Rat) * w i) := by
  have h0 := h 0 (by omega)
  have h1 := h 1 (by omega)
  have h2 := h 2 (by omega)
  have h3 := h 3 (by omega)
  simp only [sumN, detE, cofE, Rat.intCast_neg, m2_cast, m3_cast, m4_cast] at *
  rw [← h0, ← h1, ← h2, ← h3]
  generalize (g 0 0 : Rat) = g00
  generalize (g 0 1 : Rat) = g01
  generalize (g 0 2 : Rat) = g02
  generalize (g 0 3 : Rat) = g03
  generalize (g 1 0 : Rat) = g10
  generalize (g 1 1 : Rat) = g11
  generalize (g 1 2 : Rat) = g12
  generalize (g 1 3 : Rat) = g13
  generalize (g 2 0 : Rat) = g20
  generalize (g 2 1 : Rat) = g21
  generalize (g 2 2 : Rat) = g22
  generalize (g 2 3 : Rat) = g23
  generalize (g 3 0 : Rat) = g30
  generalize (g 3 1 : Rat) = g31
  generalize (g 3 2 : Rat) = g32
  generalize (g 3 3 : Rat) = g33
  simp only [m2, m3, m4]
  grind
theorem cr_4_2 {x w : Nat → Rat} (h : ∀ i, i < 4 → sumN 4 (fun k => (g i k : Rat) * x k) = w i) : (detE 4 g : Rat) * x 2 = sumN 4 (fun i => (cofE 4 g i 2 : Rat) * w i) := by
  have h0 := h 0 (by omega)
  have h1 := h 1 (by omega)
  have h2 := h 2 (by omega)
  have h3 := h 3 (by omega)
  simp only [sumN, detE, cofE, Rat.intCast_neg, m2_cast, m3_cast, m4_cast] at *
  rw [← h0, ← h1, ← h2, ← h3]
  generalize (g 0 0 : Rat) = g00
  generalize (g 0 1 : Rat) = g01
  generalize (g 0 2 : Rat) = g02
  generalize (g 0 3 : Rat) = g03
  generalize (g 1 0 : Rat) = g10
  generalize (g 1 1 : Rat) = g11
  generalize (g 1 2 : Rat) = g12
  generalize (g 1 3 : Rat) = g13
  generalize (g 2 0 : Rat) = g20
  generalize (g 2 1 : Rat) = g21
  generalize (g 2 2 : Rat) = g22
  generalize (g 2 3 : Rat) = g23
  generalize (g 3 0 : Rat) = g30
  generalize (g 3 1 : Rat) = g31
  generalize (g 3 2 : Rat) = g32
  generalize (g 3 3 : Rat) = g33
  simp only [m2, m3, m4]
  grind
theorem cr_4_3 {x w : Nat → Rat} (h : ∀ i, i < 4 → sumN 4 (fun k => (g i k : Rat) * x k) = w i) : (detE 4 g : Rat) * x 3 = sumN 4 (fun i => (cofE 4 g i 3 : Rat) * w i) := by
  have h0 := h 0 (by omega)
  have h1 := h 1 (by omega)
  have h2 := h 2 (by omega)
  have h3 := h 3 (by omega)
  simp only [sumN, detE, cofE, Rat.intCast_neg, m2_cast, m3_cast, m4_cast] at *
  rw [← h0, ← h1, ← h2, ← h3]
  generalize (g 0 0 : Rat) = g00
  generalize (g 0 1 : Rat) = g01
  generalize (g 0 2 : Rat) = g02
  generalize (g 0 3 : Rat) = g03
  generalize (g 1 0 : Rat) = g10
  generalize (g 1 1 : Rat) = g11
  generalize (g 1 2 : Rat) = g12
  generalize (g 1 3 : Rat) = g13
  generalize (g 2 0 : Rat) = g20
  generalize (g 2 1 : Rat) = g21
  generalize (g 2 2 : Rat) = g22
  generalize (g 2 3 : Rat) = g23
  generalize (g 3 0 : Rat) = g30
  generalize (g 3 1 : Rat) = g31
  generalize (g 3 2 : Rat) = g32
  generalize (g 3 3 : Rat) = g33
  simp only [m2, m3, m4]
  grind
theorem cramer {n : Nat} (h1 : 1 ≤ n) (h4 : n ≤ 4) {x w : Nat → Rat} (h : ∀ i, i < n → sumN n (fun k => (g i k : Rat) * x k) = w i) (j : Nat) (hj : j < n) : (detE n g : Rat) * x j = sumN n (fun i => (cofE n g i j : Rat) * w i) := by
  rcases lt4 h1 h4 with rfl | rfl | rfl | rfl
  · have b : j = 0 := by omega
    rcases b with rfl
    · exact cr_1_0 h
  · have b : j = 0 ∨ j = 1 := by omega
    rcases b with rfl | rfl
    · exact cr_2_0 h
    · exact cr_2_1 h
  · have b : j = 0 ∨ j = 1 ∨ j = 2 := by omega
    rcases b with rfl | rfl | rfl
    · exact cr_3_0 h
    · exact cr_3_1 h
    · exact cr_3_2 h
  · have b : j = 0 ∨ j = 1 ∨ j = 2 ∨ j = 3 := by omega
    rcases b with rfl | rfl | rfl | rfl
    · exact cr_4_0 h
    · exact cr_4_1 h
    · exact cr_4_2 h
    · exact cr_4_3 h
/-- no determinant -/
theorem det_ker {n : Nat} (h1 : 1 ≤ n) (h4 : n ≤ 4) (hd : detE n g = 0) : ∃ x : Nat → Rat, (∃ j, j < n ∧ x j ≠ 0) ∧ ∀ i, i < n → sumN n (fun k => (g i k : Rat) * x k) = 0 := by
  have hd : ((detE n g : Int) : Rat) = 0 := by rw [hd]; rfl
  rcases lt4 h1 h4 with rfl | rfl | rfl | rfl
  · simp only [detE, m2_cast, m3_cast, m4_cast] at hd
    obtain ⟨x, hx, e0⟩ := k1 hd
    refine ⟨fun j => x, ?_, fun i hi => ?_⟩
    · exact ⟨0, by omega, hx⟩
    · have b : i = 0 := by omega
      rcases b with rfl <;> simp [sumN] <;> grind
  · simp only [detE, m2_cast, m3_cast, m4_cast] at hd
    obtain ⟨x, y, hx, e0, e1⟩ := k2 hd
    refine ⟨fun j => if j = 0 then x else y, ?_, fun i hi => ?_⟩
    · rcases hx with hx | hx
      · exact ⟨0, by omega, by simpa using hx⟩
      · exact ⟨1, by omega, by simpa using hx⟩
    · have b : i = 0 ∨ i = 1 := by omega
      rcases b with rfl | rfl <;> simp [sumN] <;> grind
  · simp only [detE, m2_cast, m3_cast, m4_cast] at hd
    obtain ⟨x, y, z, hx, e0, e1, e2⟩ := k3 hd
    refine ⟨fun j => if j = 0 then x else if j = 1 then y else z, ?_, fun i hi => ?_⟩
    · rcases hx with hx | hx | hx
      · exact ⟨0, by omega, by simpa using hx⟩
      · exact ⟨1, by omega, by simpa using hx⟩
      · exact ⟨2, by omega, by simpa using hx⟩
    · have b : i = 0 ∨ i = 1 ∨ i = 2 := by omega
      rcases b with rfl | rfl | rfl <;> simp [sumN] <;> grind
  · simp only [detE, m2_cast, m3_cast, m4_cast] at hd
    obtain ⟨x, y, z, u, hx, e0, e1, e2, e3⟩ := k4 hd
    refine ⟨fun j => if j = 0 then x else if j = 1 then y else if j = 2 then z else u, ?_, fun i hi => ?_⟩
    · rcases hx with hx | hx | hx | hx
      · exact ⟨0, by omega, by simpa using hx⟩
      · exact ⟨1, by omega, by simpa using hx⟩
      · exact ⟨2, by omega, by simpa using hx⟩
      · exact ⟨3, by omega, by simpa using hx⟩
    · have b : i = 0 ∨ i = 1 ∨ i = 2 ∨ i = 3 := by omega
      rcases b with rfl | rfl | rfl | rfl <;> simp [sumN] <;> grind
end
end DL

/-! N11: sums told by plans. -/
set_option linter.all false
set_option maxRecDepth 100000
namespace DL
/-! sizes -/
def gE (p : List (List Int)) (j k : Nat) : Int := (p.map fun r => at0 r j * at0 r k).sum
theorem gE_bd {n : Nat} {p : List (List Int)} (h : IsPlan n p) (j k : Nat) : Bd 4 (gE p j k) := by
  have b : ∀ r ∈ p, ∀ t, (at0 r t).natAbs ≤ 1 := fun r hr t => by
    have := Bd.getD (k := 1) (fun x m => h.rows.bd r hr x m) t
    unfold Bd at this; omega
  have := sum_bd (k := 1) (p.map fun r => at0 r j * at0 r k) fun y hy => by
    obtain ⟨r, hr, rfl⟩ := List.mem_map.mp hy
    rw [Int.natAbs_mul]
    exact Nat.mul_le_mul (b r hr j) (b r hr k)
  rw [List.length_map, Nat.mul_one] at this
  have := h.p8
  unfold Bd gE; omega
theorem lead_gE {n : Nat} {p : List (List Int)} {w x : Nat → Rat} : Lead n p w x ↔ ∀ j, j < n → sumN n (fun k => (gE p j k : Rat) * x k) = w j := by
  have e : ∀ j, j < n → sumN n (fun k => (gE p j k : Rat) * x k) = sumN p.length (fun i => pa p i j * phi n p x i) := fun j hj => by
    rw [← gram_row hj, dotR_sumN]
    exact sumN_congr fun k hk => by simp [gE, at0, List.getD, hk]
  exact ⟨fun h j hj => by rw [e j hj]; exact h j hj, fun h j hj => by rw [← e j hj]; exact h j hj⟩
theorem det_ne {n : Nat} {p : List (List Int)} (h : IsPlan n p) (hs : settledB n p = true) : detE n (gE p) ≠ 0 := fun hd => by
  obtain ⟨x, ⟨j, j1, j2⟩, hx⟩ := det_ker h.n1 h.n4 hd
  exact j2 ((settledR (fun r hr => isW_len (h.w r hr)) hs).lead0 (lead_gE.mpr hx) j j1)
def sumZ : Nat → (Nat → Int) → Int
  | 0, _ => 0
  | n + 1, f => sumZ n f + f n
theorem sumZ_cast (n : Nat) (f : Nat → Int) : ((sumZ n f : Int) : Rat) = sumN n (fun i => (f i : Rat)) := by
  induction n with
  | zero => rfl
  | succ n ih => unfold sumZ sumN; rw [Rat.intCast_add, ih]
theorem sumZ_bd {b : Nat} {f : Nat → Int} : ∀ (n : Nat), (∀ i, i < n → Bd b (f i)) → Bd (b + n) (sumZ n f)
  | 0, _ => .zero
  | n + 1, h => by
    unfold sumZ
    exact ((sumZ_bd n fun i hi => h i (by omega))).add ((h n (by omega)).mono (by omega))
/-- numbers with a common bottom -/
structure Szs (D d b : Nat) (x : List Rat) : Prop where
  ne : D ≠ 0
  lt : D < 2 ^ d
  cm : ∀ q ∈ x, Cm D b q
theorem Szs.sz {D d b k : Nat} {x : List Rat} (h : Szs D d b x) (k1 : b ≤ k) (k2 : d ≤ k) : ∀ q ∈ x, Sz k q := fun q m => (h.cm q m).sz h.ne h.lt k1 k2
theorem Szs.ps {D d b t k : Nat} {x : List Rat} (h : Szs D d b x) (hl : x.length ≤ 2 ^ t) (k1 : b + t ≤ k) (k2 : d ≤ k) : PS k x := .of_cm h.cm h.ne h.lt hl k1 k2
theorem lead_szs {n : Nat} {p : List (List Int)} (h : IsPlan n p) (hs : settledB n p = true) {w : List Int} (hw : ∀ x ∈ w, Bd 5 x) {x : List Rat} (hl : x.length = n) (hx : Lead n p (wat w) (qat x)) : Szs (detE n (gE p)).natAbs 22 24 x where
  ne := by have := det_ne h hs; omega
  lt := by have := detE_bd (g := gE p) (gE_bd h) h.n4; exact this
  cm := fun q hq => by
    obtain ⟨j, hj, e⟩ := List.getElem_of_mem hq
    have ex : qat x j = q := qat_of (by rw [List.getElem?_eq_getElem hj, e])
    have hc := cramer h.n1 h.n4 (lead_gE.mp hx) j (by omega)
    rw [ex] at hc
    have hz : sumN n (fun i => (cofE n (gE p) i j : Rat) * wat w i) = ((sumZ n (fun i => cofE n (gE p) i j * at0 w i) : Int) : Rat) := by
      rw [sumZ_cast]
      exact sumN_congr fun i _ => by rw [castMul]; rfl
    rw [hz] at hc
    have hb : Bd 24 (sumZ n (fun i => cofE n (gE p) i j * at0 w i)) := Bd.mono (sumZ_bd (b := 20) n fun i hi => (cofE_bd (gE_bd h) h.n1 h.n4 hi (by omega)).mul (Bd.getD hw i)) (by have := h.n4; omega)
    generalize sumZ n (fun i => cofE n (gE p) i j * at0 w i) = z at *
    have hd := det_ne h hs
    generalize detE n (gE p) = d at *
    rcases Int.natAbs_eq d with e2 | e2
    · refine ⟨z, ?_, hb⟩
      have : ((d.natAbs : Nat) : Rat) = (d : Rat) := by rw [← Rat.intCast_natCast, ← e2]
      rw [this]; grind
    · refine ⟨-z, ?_, hb.neg⟩
      have : ((d.natAbs : Nat) : Rat) = -(d : Rat) := by
        have : ((d.natAbs : Nat) : Int) = -d := by omega
        rw [← Rat.intCast_natCast, this, Rat.intCast_neg]
      rw [this, Rat.intCast_neg]; grind
/-- the factors -/
def facL (p : List (List Int)) (x : List Rat) : List Rat := p.map fun r => dotQ r x
theorem facL_at {n : Nat} {p : List (List Int)} (h : ∀ r ∈ p, r.length = n) {x : List Rat} (hx : x.length = n) {i : Nat} (hi : i < p.length) : qat (facL p x) i = phi n p (qat x) i := by
  have e := List.getElem?_eq_getElem hi
  rw [phi_get e, dotR_sumN, ← mulQ_sumN (h _ (List.getElem_mem hi)) hx]
  exact qat_of (by unfold facL; rw [List.getElem?_map, e]; rfl)
theorem Szs.fac {D d b : Nat} {x : List Rat} (s : Szs D d b x) {n : Nat} {p : List (List Int)} (h : IsPlan n p) (hx : x.length = n) : Szs D d (b + 3) (facL p x) :=
  ⟨s.ne, s.lt, fun q hq => by
    obtain ⟨r, hr, rfl⟩ := List.mem_map.mp hq
    have := Cm.sum (D := D) (b := 1 + b) 2 (l := mulQ r x) (Cm.mulQ (fun y hy => h.rows.bd r hr y hy) s.cm) (by
      unfold mulQ; rw [List.length_zipWith, hx, isW_len (h.w r hr)]; have := h.n4; simp; omega)
    exact this.mono (by omega)⟩
theorem Szs.sqs {D d b : Nat} {x : List Rat} (s : Szs D d b x) : Szs (D * D) (d + d) (b + b) (sqsL x) :=
  ⟨Nat.mul_ne_zero s.ne s.ne, by rw [Nat.pow_add]; exact Nat.mul_lt_mul'' s.lt s.lt, Cm.sqs s.cm⟩
/-! what solves -/
theorem ind_bd {n k : Nat} {rows : List (List Int)} (h : Rows n k rows) : ∀ r ∈ independent rows, ∀ x ∈ r, Bd (bitB k (independent rows).length) x := by
  have bt : ∀ (l f : List (List Int)), (∀ r ∈ l, r.length = n) → (∀ r ∈ l, ∀ x ∈ r, Bd k x) → Ech n f → (∀ r ∈ f, ∀ x ∈ r, Bd (bitB k f.length) x) → ∀ r ∈ l.foldl indep1 f, ∀ x ∈ r, Bd (bitB k (l.foldl indep1 f).length) x := by
    intro l
    induction l with
    | nil => intro f _ _ _ hf; exact hf
    | cons b l il => intro f q1 q2 q3 q4; exact il (indep1 f b) (fun r m => q1 r (List.mem_cons_of_mem _ m)) (fun r m => q2 r (List.mem_cons_of_mem _ m)) (indep1_ech q3 (q1 b List.mem_cons_self)) (indep1_bd q3 (q1 b List.mem_cons_self) (q2 b List.mem_cons_self) q4)
  exact bt rows [] h.len h.bd .nil (by simp)
def eOp {α : Type} (f : α → D) : Option α → D
  | none => .non
  | some a => f a
section
variable {S : Store}
theorem last_atN {r : List Int} {n : Nat} (h : r.length = n + 1) : DL.atI r (-1) = some (at0 r n) := by
  unfold DL.atI
  rw [if_neg (by decide), if_pos (by omega)]
  have : ((-1 : Int) + (r.length : Nat)).toNat = n := by omega
  rw [this]; exact get_getD (by omega)
theorem n_first_place {r : List Int} (h : nz r = true) (hl : r.length ≤ 1000) : F_first_place [vLI r] S = .ok (.int (fp r)) S := by rw [vLI_eq]; exact m_first_place h hl
theorem n_independent {n k : Nat} {rows : List (List Int)} (h : Rows n k rows) (hn : n ≤ 1000) (hb : bitB k (n + 1) ≤ 9000) : F_independent [vLL rows] S = .ok (vLL (independent rows)) S := by
  rw [vLL_eq, vLL_eq]; exact m_independent h hn hb (eLL rows) eL rfl enc_L
theorem n_solved {n k : Nat} {rows : List (List Int)} (h : Rows (n + 1) k rows) (hne : rows ≠ []) (hn : n ≤ 900) (hb : bitB k (n + 2) ≤ 9000) : F_solved_tables [vLL rows] S = .ok (eOp (vL vQ) (solvedM n rows)) S := by
  have E := ind_ech h.len
  have B := ind_bd h
  have hf1 := E.le
  have bb : bitB k (independent rows).length ≤ 9000 := Nat.le_trans (bitB_le (by omega)) hb
  have ni := n_independent (S := S) h (by omega) hb
  have l0 : ∃ r, DL.atI rows 0 = some r ∧ r.length = n + 1 := by
    cases rows with
    | nil => exact (hne rfl).elim
    | cons r q => exact ⟨r, rfl, h.len r List.mem_cons_self⟩
  obtain ⟨r0, i0, hr0⟩ := l0
  have ew : ((r0.length : Nat) : Int) - 1 = (n : Int) := by omega
  have c1 : ∀ o4, c_solved_tables_1 [.val (vLL rows), .val (.int (n : Int)), .val (vLL (independent rows)), .non, o4] S = .ok (((independent rows).map fun r => decide (fp r = n)).map D.bl) [.val (vLL rows), .val (.int (n : Int)), .val (vLL (independent rows)), .non, o4] S := fun o4 => by
    rw [List.map_map]
    refine lcM (S := S) (independent rows) vLI _ (fun r => [.val (vLL rows), .val (.int (n : Int)), .val (vLL (independent rows)), .val (vLI r), o4]) (by simp) (by omega) (fun r _ => rfl) (fun r hr => ?_) (fun r _ => rfl)
    have f := n_first_place (S := S) (E.nz r hr) (by rw [E.len r hr]; omega)
    have e : ((fp r : Int) == (n : Int)) = decide (fp r = n) := by rw [Bool.eq_iff_iff, beq_iff_eq, decide_eq_true_eq]; omega
    simp [f, e]
  have an : opAnyB (vL D.bl ((independent rows).map fun r => decide (fp r = n))) = some (.bl ((independent rows).any fun r => decide (fp r = n))) := by
    rw [vL_def]
    unfold opAnyB
    dsimp only
    rw [allBls_map]
    simp [Function.comp_def]
  have rp := lsMul_rep vQ 0 n (by omega)
  have hes : start 5 [vLL rows] = [.val (vLL rows), .non, .non, .non, .non] := rfl
  unfold solvedM
  by_cases hany : (independent rows).any (fun r => decide (fp r = n)) = true
  · rw [if_pos hany]
    rw [hany] at an
    simp only [F_solved_tables, fnOf_ap, hes, b_solved_tables, sSeq_ap, sAsg_ap, dTup_ap, aCons_ap, aNil_ap, dB2_ap, dB1_ap, dV_ap, dC_ap, dCall_ap, List.getElem?_cons_zero, List.getElem?_cons_succ, bind_ok, look_vL, look_int, opIx_vL, i0, Option.map_some, opLen_vL, opSub_int, ew, ni, sE_ok, gTup_ap, List.length_cons, List.length_nil, if_true, gAll_cons, gAll_nil, gName_ap, List.set_cons_zero, List.set_cons_succ, sIf_ap, dTest_ap, dFz_ap, c1, lst_map, an, sRet_ap, eOp]
  · have hany' : (independent rows).any (fun r => decide (fp r = n)) = false := by simpa using hany
    rw [if_neg hany]
    rw [hany'] at an
    have hfn : ∀ r ∈ independent rows, fp r < n := fun r m => by
      have h1 := E.fps.2 (fp r) (List.mem_map_of_mem m)
      have h2 : fp r ≠ n := fun e => hany (List.any_eq_true.mpr ⟨r, m, by simpa using e⟩)
      omega
    obtain ⟨e', t1, o, rfl⟩ := forA (S := S) (g := gName 3) (body := w_solved_tables_1) vLI (fun j e => ∃ o, e = [.val (vLL rows), .val (.int (n : Int)), .val (vLL (independent rows)), o, .own ((((independent rows).take j).foldl (fillIn n) (List.replicate n 0)).map vQ)]) (independent rows)
      [.val (vLL rows), .val (.int (n : Int)), .val (vLL (independent rows)), .non, .own ((List.replicate n (0 : Rat)).map vQ)] ⟨.non, rfl⟩ (by
        rintro j e r hr ⟨o, rfl⟩
        obtain ⟨hj, he⟩ := List.getElem?_eq_some_iff.mp hr
        have hm : r ∈ independent rows := List.mem_of_getElem? hr
        have hlr := E.len r hm
        have hz := E.nz r hm
        have f := n_first_place (S := S) hz (by omega)
        have i1 : opIx (vLI r) (.int (-1)) = some (.int (at0 r n)) := by rw [opIx_vL, last_atN hlr]; rfl
        have i2 : opIx (vLI r) (.int (fp r)) = some (.int (at0 r (fp r))) := by rw [opIx_vL, at_getD (by have := hfn r hm; omega)]; rfl
        have fr := m_fractionQ (S := S) (at0 r n) (at0 r (fp r)) (fp_ne hz) ((Bd.getD (B r hm) (fp r)).mono bb)
        have hlen : (((independent rows).take j).foldl (fillIn n) (List.replicate n 0)).length = n := by rw [fill_len, List.length_replicate]
        have pl : placeOf (((independent rows).take j).foldl (fillIn n) (List.replicate n 0)).length (fp r : Int) = some (fp r) := placeOf_nat (by rw [hlen]; exact hfn r hm)
        have ex : ((independent rows).take (j + 1)).foldl (fillIn n) (List.replicate n 0) = (((independent rows).take j).foldl (fillIn n) (List.replicate n 0)).set (fp r) (pval n r) := by
          rw [foldl_take (fillIn n) (List.replicate n 0) (independent rows) j hr]; rfl
        have pv : ((at0 r n : Int) : Rat) / ((at0 r (fp r) : Int) : Rat) = pval n r := rfl
        rw [pv] at fr
        rw [ex]
        refine ⟨_, [.val (vLL rows), .val (.int (n : Int)), .val (vLL (independent rows)), .val (vLI r), .own (((((independent rows).take j).foldl (fillIn n) (List.replicate n 0)).set (fp r) (pval n r)).map vQ)], rfl, ?_, .val (vLI r), rfl⟩
        generalize ((independent rows).take j).foldl (fillIn n) (List.replicate n 0) = X at *
        generalize pval n r = v at *
        simp [w_solved_tables_1, f, i1, i2, fr, gSub, putAt, pl, List.map_set])
    rw [List.take_length] at t1
    generalize hX : (independent rows).foldl (fillIn n) (List.replicate n 0) = X at *
    have rp' : lsMul (.lst [vQ 0]) (.int (n : Int)) = some ((List.replicate n (0 : Rat)).map vQ) := rp
    simp only [F_solved_tables, fnOf_ap, hes, b_solved_tables, sSeq_ap, sAsg_ap, dTup_ap, aCons_ap, aNil_ap, dB2_ap, dB1_ap, dV_ap, dC_ap, dCall_ap, List.getElem?_cons_zero, List.getElem?_cons_succ, bind_ok, look_vL, look_int, opIx_vL, i0, Option.map_some, opLen_vL, opSub_int, ew, ni, sE_ok, gTup_ap, List.length_cons, List.length_nil, if_true, gAll_cons, gAll_nil, gName_ap, List.set_cons_zero, List.set_cons_succ, sIf_ap, dTest_ap, dFz_ap, c1, lst_map, an, Bool.false_eq_true, if_false, sNext_ap, sOwn_ap, dB2F_ap, pair_0, look_lst, rp', sFor_ap, iSeq_ap, srcD_vL, t1, sRet_ap, dF_ap, eOp]
/-! sums -/
theorem n_check_sum {n : Nat} {w : List Int} (h : IsSum n w) (h4 : n ≤ 4) : F_check_sum [.int (n : Int), vTI w] S = .ok .non S := by
  have hl := h.len
  have c1 : c_check_sum_1 [.val (.int (n : Int)), .val (vTI w), .non] S = .ok (w.map fun x => D.bl (decide (-20 ≤ x) && decide (x ≤ 20))) [.val (.int (n : Int)), .val (vTI w), .non] S :=
    lcM (S := S) w D.int _ (fun x => [.val (.int (n : Int)), .val (vTI w), .val (.int x)]) (by simp) (by omega) (fun x _ => rfl) (fun x _ => by simp [m_is_between]) (fun x _ => rfl)
  have al : opAll (.lst (w.map fun x => D.bl (decide (-20 ≤ x) && decide (x ≤ 20)))) = some (.bl true) := by
    rw [opAll_fmap]
    have : w.all (fun x => decide (-20 ≤ x) && decide (x ≤ 20)) = true := by
      rw [List.all_eq_true]
      intro x hx
      have := h.bd x hx
      simp; omega
    rw [this]
  have an : w.any (· != 0) = true := by
    rw [List.any_eq_true]
    obtain ⟨x, h1, h2⟩ := h.nz
    exact ⟨x, h1, by simpa using h2⟩
  simp [-opAll_fmap, F_check_sum, b_check_sum, hl, c1, al, an]
theorem n_square_of {n : Nat} {p : List (List Int)} (h : IsPlan n p) : F_square_of [vP p] S = .ok (vLL (gram n p)) S := by
  obtain ⟨r0, r1, r2, r3⟩ := h.at0
  rw [vP_eq, vLL_eq]
  exact m_square_of h.rows r1 (by have := h.n4; omega) (by omega) (by have := h.p8; omega)
theorem augm_rows {n : Nat} {p : List (List Int)} (h : IsPlan n p) {w : List Int} (hw : ∀ x ∈ w, Bd 5 x) : Rows (n + 1) 5 (augm n p w) := ⟨augm_len, fun r hr x hx => by
    obtain ⟨y, hy, rfl⟩ := List.mem_map.mp hr
    have hz := List.of_mem_zip (a := y.1) (b := y.2) hy
    rcases List.mem_append.mp hx with z | z
    · exact ((gram_rows h).bd _ hz.1 x z).mono (by omega)
    · rw [List.mem_singleton.mp z]; exact hw _ hz.2⟩
theorem sum_bits {n : Nat} (h : n ≤ 4) : bitB 5 (n + 2) ≤ 9000 := by
  have : ∀ m : Fin 5, bitB 5 (m.val + 2) ≤ 9000 := by decide +kernel
  exact this ⟨n, by omega⟩
theorem IsSum.b5 {n : Nat} {w : List Int} (h : IsSum n w) : ∀ x ∈ w, Bd 5 x := fun x m => by have := h.bd x m; unfold Bd; omega
theorem n_found_leading {n : Nat} {p : List (List Int)} (h : IsPlan n p) {w : List Int} (hl : w.length = n) (hw : ∀ x ∈ w, Bd 5 x) : F_found_leading [vP p, vTI w] S = .ok (eOp (vL vQ) (solvedM n (augm n p w))) S := by
  have h4 := h.n4
  have sq := n_square_of (S := S) h
  have c1 : c_found_leading_1 [.val (vP p), .val (vTI w), .non, .non, .non] S = .ok ((augm n p w).map vLI) [.val (vP p), .val (vTI w), .non, .non, .non] S := by
    unfold augm
    rw [List.map_map]
    refine lcM (S := S) ((gram n p).zip w) (fun x => D.tup [vLI x.1, .int x.2]) _ (fun x => [.val (vP p), .val (vTI w), .non, .val (vLI x.1), .val (.int x.2)]) (by simp [sq, pairUp_mapN]) (by rw [List.length_zip]; omega) (fun x _ => rfl) (fun x hx => ?_) (fun x _ => rfl)
    have hz := List.of_mem_zip (a := x.1) (b := x.2) hx
    have := opAdd_vL1 (f := D.int) (xs := x.1) (y := x.2) (by rw [(gram_rows h).len _ hz.1]; omega)
    simp [this]
  have ne : augm n p w ≠ [] := by
    intro e
    have := congrArg List.length e
    have h1 := h.n1
    simp [augm, gram, hl] at this
    omega
  have so := n_solved (S := S) (augm_rows h hw) ne (by omega) (sum_bits h4)
  have l1 : D.lst ((augm n p w).map vLI) = vLL (augm n p w) := lst_map _ _
  simp [F_found_leading, b_found_leading, c1, l1, so]
theorem plan_at0 {n : Nat} {p : List (List Int)} (h : IsPlan n p) : ∃ r, DL.atI p 0 = some r ∧ r.length = n := by
  obtain ⟨r, h1, _, h3⟩ := h.at0
  exact ⟨r, h1, h3⟩
theorem n_checked_leading {n : Nat} {p : List (List Int)} (h : IsPlan n p) {w : List Int} (hw : IsSum n w) {x : List Rat} (hx : solvedM n (augm n p w) = some x) : F_checked_leading [vP p, vTI w] S = .ok (vL vQ x) S := by
  obtain ⟨r, h1, h2⟩ := plan_at0 h
  have c := n_check_sum (S := S) hw h.n4
  have f := n_found_leading (S := S) h hw.len hw.b5
  rw [hx] at f
  simp only [eOp] at f
  simp [F_checked_leading, b_checked_leading, n_check_plan h, h1, h2, c, f]
theorem n_best_factors {n D d b : Nat} {p : List (List Int)} (h : IsPlan n p) {w : List Int} (hw : IsSum n w) {x : List Rat} (hx : solvedM n (augm n p w) = some x) (s : Szs D d b x) (hb : b ≤ 1500) (hd : d ≤ 1500) : F_best_factors [vP p, vTI w] S = .ok (vT vQ (facL p x)) S := by
  have hl := (lead_some (p := p) hw.len hx).1
  have cl := n_checked_leading (S := S) h hw hx
  have h4 := h.n4
  have c1 : c_best_factors_1 [.val (vP p), .val (vTI w), .val (vL vQ x), .non] S = .ok ((facL p x).map vQ) [.val (vP p), .val (vTI w), .val (vL vQ x), .non] S := by
    unfold facL
    rw [List.map_map]
    refine lcM (S := S) p vTI _ (fun r => [.val (vP p), .val (vTI w), .val (vL vQ x), .val (vTI r)]) (by simp) (by have := h.p8; omega) (fun r _ => rfl) (fun r hr => ?_) (fun r _ => rfl)
    have hr1 := isW_len (h.w r hr)
    have ps : PS 1510 (mulQ r x) := .of_cm (D := D) (b := 1 + b) (d := d) (t := 2) (Cm.mulQ (fun y hy => h.rows.bd r hr y hy) s.cm) s.ne s.lt (by unfold mulQ; rw [List.length_zipWith, hl, hr1]; simp; omega) (by omega) (by omega)
    have ld := m_led (S := S) (k := 1510) (IsSeq.T DL.D.int r) (IsSeq.L vQ x) (fun y hy => (h.rows.bd r hr y hy).mono (by omega)) (s.sz (by omega) (by omega)) ps (by omega) (by omega) (by omega)
    simp [ld]
  simp [F_best_factors, b_best_factors, cl, c1, tup_map]
theorem n_spread {n D d b : Nat} {p : List (List Int)} (h : IsPlan n p) {w : List Int} (hw : IsSum n w) {x : List Rat} (hx : solvedM n (augm n p w) = some x) (s : Szs D d b x) (hb : b ≤ 1500) (hd : d ≤ 1500) : F_spread [vP p, vTI w] S = .ok (vQ (sqs (facL p x))) S := by
  have hl := (lead_some (p := p) hw.len hx).1
  have bf := n_best_factors (S := S) h hw hx s hb hd
  have sf := s.fac h hl
  have lf : (facL p x).length = p.length := by simp [facL]
  have h8 := h.p8
  have c1 : c_spread_1 [.val (vP p), .val (vTI w), .non] S = .ok ((sqsL (facL p x)).map vQ) [.val (vP p), .val (vTI w), .non] S := by
    unfold sqsL
    rw [List.map_map]
    refine lcM (S := S) (facL p x) vQ _ (fun y => [.val (vP p), .val (vTI w), .val (vQ y)]) (by simp [bf]) (by omega) (fun r _ => rfl) (fun y hy => ?_) (fun r _ => rfl)
    have sy := sf.sz (k := 1510) (by omega) (by omega) y hy
    have := m_by_factor (S := S) sy sy (by omega)
    simp [this]
  have so := m_sum_of (S := S) (sf.sqs.ps (t := 3) (k := 3100) (by simp [sqsL, lf]; omega) (by omega) (by omega)) (by omega)
  have e : sqs (facL p x) = (sqsL (facL p x)).sum := rfl
  rw [e]
  generalize sqsL (facL p x) = L at *
  simp [F_spread, b_spread, c1, lst_map, so]
end
end DL

/-! N12: what is raised; outcomes; ties. -/
set_option linter.all false
set_option maxRecDepth 100000
namespace DL
section
variable {e : Env} {S S' : Store}
@[simp] theorem sTryK_ap {i j : Nat} {ok : List Nat} {body : SM} : sTryK i j ok body e S = match body e S with | .exc c e S => if ok.contains c then .nx ((e.set j (.val (.exc c))).set i .non) S else .stuck | o => o := rfl
@[simp] theorem dM1_ap {f g : EM} {k : D → D → Option D} : dM1 f g k e S = (f e S).bind fun a e S => match look e S a with | .lst _ => (g e S).bind fun b e S => (match k (look e S a) b with | some r => .ok r e S | none => .stuck) | _ => .stuck := rfl
@[simp] theorem dCallF_ap {tbl : List (Nat × Fn)} {f : EM} {fa : AM} : dCallF tbl f fa e S = (f e S).bind fun d e S => match d with | .glb k => (match tblAt tbl k with | some F => dCall F fa e S | none => .stuck) | _ => .stuck := rfl
@[simp] theorem look_exc {c : Nat} : look e S (.exc c) = .exc c := rfl
@[simp] theorem look_glb {c : Nat} : look e S (.glb c) = .glb c := rfl
abbrev sRet' : List Nat := [114, 101, 116, 117, 114, 110, 101, 100]
abbrev sRai : List Nat := [114, 97, 105, 115, 101, 100]
/-- ('returned', d), ('raised', n) -/
def vRet (d : D) : D := .tup [.str sRet', d]
def vRai (n : Nat) : D := .tup [.str sRai, .int (n : Int)]
theorem m__law_name : ∀ c ∈ okL, F__law_name [.exc c] S = .ok (.int ((c : Int) - 1)) S := by
  intro c hc
  simp only [okL, List.mem_cons, List.not_mem_nil, or_false] at hc
  rcases hc with rfl | rfl | rfl | rfl | rfl | rfl | rfl | rfl | rfl | rfl | rfl | rfl | rfl | rfl | rfl | rfl | rfl | rfl | rfl | rfl <;> rfl
/-- the body of _law_outcome -/
def outB (F : Fn) : SM :=
  sSeq (sAsg (dC .non) (gName 2))
    (sSeq (sAsg (dC .non) (gName 3))
    (sSeq (sTryK 4 2 okL (sAsg (dCall F (aCons (dV 0) (aCons (dV 1) (aNil)))) (gName 3)))
    (sSeq (sIf (dTest (dB2 (dV 2) (dC .non) opIs)) (sRet (dTup (aCons (dC (.str [114, 101, 116, 117, 114, 110, 101, 100])) (aCons (dV 3) (aNil))))) (sNext))
    (sRet (dTup (aCons (dC (.str [114, 97, 105, 115, 101, 100])) (aCons (dCall F__law_name (aCons (dV 2) (aNil))) (aNil))))))))
theorem out_ok {F : Fn} {h a d : D} (hF : F [h, a] S = .ok d S') : fnOf 5 (outB F) [h, a] S = .ok (vRet d) S' := by
  have : opIs .non .non = some (.bl true) := rfl
  simp [outB, hF, this, vRet]
theorem out_exc {F : Fn} {h a : D} {c : Nat} (hF : F [h, a] S = .exc c S') (hc : c ∈ okL) : fnOf 5 (outB F) [h, a] S = .ok (vRai (c - 1)) S' := by
  have h1 := m__law_name (S := S') c hc
  have h2 : opIs (.exc c) .non = some (.bl false) := rfl
  have h3 : okL.contains c = true := by simpa using hc
  have h4 : ((c : Int) - 1) = ((c - 1 : Nat) : Int) := by
    have : 1 ≤ c := by
      revert hc; unfold okL; intro hc
      simp only [List.mem_cons, List.not_mem_nil, or_false] at hc; omega
    omega
  rw [h4] at h1
  simp [outB, hF, h1, h2, vRai, hc]
end
end DL

/-! law k51: the best plans that are known. -/
set_option linter.all false
set_option maxRecDepth 100000
set_option maxHeartbeats 4000000
namespace DL.k51
open DL
def sgns (b : Bool) : List Int := if b then [-1, 0, 1] else [0, 1]
def rowsQ (b : Bool) : Nat → List (List Int)
  | 0 => [[]]
  | n + 1 => (rowsQ b n).flatMap fun r => (sgns b).map fun x => r ++ [x]
/-- the single weighings -/
def somQ (n : Nat) (b : Bool) : List (List Int) := (rowsQ b n).filter fun r => nz r && (at0 r (fp r) == 1)
def bQ (b : Bool) : D := if b then .str [98, 111, 116, 104] else .str [111, 110, 101]
theorem sort_t (S : Store) : F_check_sort [bQ true] S = .ok .non S := by kernel_rfl
theorem sort_f (S : Store) : F_check_sort [bQ false] S = .ok .non S := by kernel_rfl
theorem sort_ok (b : Bool) (S : Store) : F_check_sort [bQ b] S = .ok .non S := by cases b; exact sort_f S; exact sort_t S
theorem som_1t (S : Store) : F_single_weighings [.int (0 + 1 : Nat), bQ true] S = .ok (eLT (somQ 1 true)) S := by kernel_rfl
theorem som_1f (S : Store) : F_single_weighings [.int (0 + 1 : Nat), bQ false] S = .ok (eLT (somQ 1 false)) S := by kernel_rfl
theorem som_2t (S : Store) : F_single_weighings [.int (1 + 1 : Nat), bQ true] S = .ok (eLT (somQ 2 true)) S := by kernel_rfl
theorem som_2f (S : Store) : F_single_weighings [.int (1 + 1 : Nat), bQ false] S = .ok (eLT (somQ 2 false)) S := by kernel_rfl
theorem som_3t (S : Store) : F_single_weighings [.int (2 + 1 : Nat), bQ true] S = .ok (eLT (somQ 3 true)) S := by kernel_rfl
theorem som_3f (S : Store) : F_single_weighings [.int (2 + 1 : Nat), bQ false] S = .ok (eLT (somQ 3 false)) S := by kernel_rfl
theorem idx_each (c : Nat) : ∀ (m : Nat), ∀ r ∈ idxRows c m, r.length = m ∧ ∀ k ∈ r, k < c
  | 0, r, h => by
    have : r = [] := by simpa [idxRows] using h
    rw [this]; simp
  | m + 1, r, h => by
    have h' : r ∈ idxStep c (idxRows c m) := h
    obtain ⟨q, h1, h2⟩ := List.mem_flatMap.mp h'
    obtain ⟨k, h3, rfl⟩ := List.mem_map.mp h2
    obtain ⟨h4, h5⟩ := idx_each c m q h1
    refine ⟨by rw [List.length_append, h4]; rfl, fun x hx => ?_⟩
    rcases List.mem_append.mp hx with z | z
    · exact h5 x z
    · rw [List.mem_singleton.mp z]; exact List.mem_range.mp (List.mem_filter.mp h3).1
theorem plan_each {n m : Nat} {som : List (List Int)} (h4 : n + 1 ≤ 4) (hm1 : 1 ≤ m) (hm8 : m ≤ 8) (hw : som.all (fun r => isW (n + 1) r) = true) : ∀ r ∈ idxRows som.length m, IsPlan (n + 1) (planOf som r) := fun r hr => by
  obtain ⟨h1, h2⟩ := idx_each som.length m r hr
  have hw := List.all_eq_true.mp hw
  refine ⟨by omega, h4, fun e => ?_, by simp [planOf, h1]; exact hm8, fun q hq => ?_⟩
  · have := congrArg List.length e
    simp [planOf, h1] at this; omega
  · obtain ⟨k, hk, rfl⟩ := List.mem_map.mp hq
    have := h2 k hk
    have e : som.getD k [] = som[k] := by simp [List.getD, this]
    rw [e]
    exact hw _ (List.getElem_mem this)
/-- one question -/
theorem best {n m : Nat} {b : Bool} {c : Int} {S : Store} (g : Goal) (hn : n + 1 ≤ 4) (hm1 : n + 1 ≤ m) (hm8 : m ≤ 8) (hsome : F_single_weighings [.int (n + 1 : Nat), bQ b] S = .ok (eLT (somQ (n + 1) b)) S)
    (hc : F_count_of [.int (somQ (n + 1) b).length, .int m] S = .ok (.int c) S) (hc2 : c ≤ 3100) (hl : (somQ (n + 1) b).length ≤ 1000) (hz : ∀ j : Fin 8, j.val < m → (idxRows (somQ (n + 1) b).length j.val).length * (somQ (n + 1) b).length ≤ 1000000) (hw : (somQ (n + 1) b).all (fun r => isW (n + 1) r) = true)
    {v : Int × Int} {p : List (List Int)} (hb : bestOf (n + 1) g (somQ (n + 1) b) m = some (v, p)) {N M sD gg rv rp : D} (hN : D.int (n + 1 : Nat) = N) (hM : D.int (m : Int) = M) (hs : bQ b = sD) (hg : gD g = gg) (hv : eF v = rv) (hp : eTT p = rp) : F_best_value [N, M, sD, gg] S = .ok rv S ∧ F_best_plan [N, M, sD, gg] S = .ok rp S := by
  have f := m_found_best (S := S) (g := g) hn hm1 hm8 (sort_ok b S) hsome hc hc2 hl (fun j hj => hz ⟨j, by omega⟩ hj) (plan_each hn (by omega) hm8 hw)
  rw [hb] at f
  have i0 : opIx (.tup [eB2 (some (v, p)), eB1 (some (v, p))]) (.int 0) = some (eTT p) := rfl
  have i1 : opIx (.tup [eB2 (some (v, p)), eB1 (some (v, p))]) (.int 1) = some (eF v) := rfl
  have lt : ∀ e S, look e S (.tup [eB2 (some (v, p)), eB1 (some (v, p))]) = .tup [eB2 (some (v, p)), eB1 (some (v, p))] := fun _ _ => rfl
  generalize (D.tup [eB2 (some (v, p)), eB1 (some (v, p))]) = T at *
  rw [hN, hM, hs, hg] at f
  rw [hv] at i1
  rw [hp] at i0
  exact ⟨by simp [F_best_value, b_best_value, f, lt, i1], by simp [F_best_plan, b_best_plan, f, lt, i0]⟩
theorem one_all : ∀ m : Fin 9, m.val ≠ 0 → ∀ b : Bool, bestOf 1 .sum (somQ 1 b) m.val = some ((1, (m.val : Int)), List.replicate m.val [1]) ∧ bestOf 1 .worst (somQ 1 b) m.val = some ((1, (m.val : Int)), List.replicate m.val [1]) ∧ bestOf 1 .whole (somQ 1 b) m.val = some ((1, (m.val : Int)), List.replicate m.val [1]) := by decide +kernel
theorem idx_1 : ∀ m : Fin 9, ∀ b : Bool, ∀ j : Fin 8, j.val < m.val → (idxRows (somQ (0 + 1) b).length j.val).length * (somQ (0 + 1) b).length ≤ 1000000 := by decide +kernel
theorem idx_2 : ∀ j : Fin 8, (idxRows (somQ (1 + 1) true).length j.val).length * (somQ (1 + 1) true).length ≤ 1000000 := by decide +kernel
theorem idx_2f : ∀ j : Fin 8, (idxRows (somQ (1 + 1) false).length j.val).length * (somQ (1 + 1) false).length ≤ 1000000 := by decide +kernel
theorem idx_3 : ∀ j : Fin 3, (idxRows (somQ (2 + 1) true).length j.val).length * (somQ (2 + 1) true).length ≤ 1000000 := by decide +kernel
theorem idx_3f : ∀ j : Fin 3, (idxRows (somQ (2 + 1) false).length j.val).length * (somQ (2 + 1) false).length ≤ 1000000 := by decide +kernel
theorem v2s_2 : (bestOf 2 .sum (somQ 2 true) 2).map (·.1) = some (1, 1) := by decide +kernel
theorem v2w_2 : bestOf 2 .worst (somQ 2 true) 2 = some ((1, 2), [[1, -1], [1, 1]]) := by decide +kernel
theorem v2d_2 : (bestOf 2 .whole (somQ 2 true) 2).map (·.1) = some (1, 4) := by decide +kernel
theorem v2s_4 : (bestOf 2 .sum (somQ 2 true) 4).map (·.1) = some (1, 2) := by decide +kernel
theorem v2w_4 : bestOf 2 .worst (somQ 2 true) 4 = some ((1, 4), [[1, -1], [1, -1], [1, 1], [1, 1]]) := by decide +kernel
theorem v2d_4 : (bestOf 2 .whole (somQ 2 true) 4).map (·.1) = some (1, 16) := by decide +kernel
theorem v2s_6 : (bestOf 2 .sum (somQ 2 true) 6).map (·.1) = some (1, 3) := by decide +kernel
theorem v2w_6 : bestOf 2 .worst (somQ 2 true) 6 = some ((1, 6), [[1, -1], [1, -1], [1, -1], [1, 1], [1, 1], [1, 1]]) := by decide +kernel
theorem v2d_6 : (bestOf 2 .whole (somQ 2 true) 6).map (·.1) = some (1, 36) := by decide +kernel
theorem v2s_8 : (bestOf 2 .sum (somQ 2 true) 8).map (·.1) = some (1, 4) := by decide +kernel
theorem v2w_8 : bestOf 2 .worst (somQ 2 true) 8 = some ((1, 8), [[1, -1], [1, -1], [1, -1], [1, -1], [1, 1], [1, 1], [1, 1], [1, 1]]) := by decide +kernel
theorem v2d_8 : (bestOf 2 .whole (somQ 2 true) 8).map (·.1) = some (1, 64) := by decide +kernel
theorem v2f : (bestOf 2 .sum (somQ 2 false) 2).map (·.1) = some (2, 1) := by decide +kernel
theorem v3f : bestOf 3 .whole (somQ 3 false) 3 = some ((1, 4), [[0, 1, 1], [1, 0, 1], [1, 1, 0]]) := by decide +kernel
theorem v3t : (bestOf 3 .whole (somQ 3 true) 3).map (·.1) = some (1, 16) := by decide +kernel
theorem v3s : (bestOf 3 .sum (somQ 3 false) 3).map (·.1) = some (9, 4) := by decide +kernel
end DL.k51

/-! law k51: true at every script (printed by k51P.py). -/
set_option linter.all false
set_option maxRecDepth 100000
set_option maxHeartbeats 4000000
namespace DL.k51
open DL
section
variable {S : Store} {ns : List Int} {A o2 o3 o4 o5 : DL.D}
theorem of_map {n m : Nat} {g : Goal} {b : Bool} {v : Int × Int} (h : (bestOf n g (somQ n b) m).map (·.1) = some v) : ∃ p, bestOf n g (somQ n b) m = some (v, p) := by
  cases hb : bestOf n g (somQ n b) m with
  | none => rw [hb] at h; cases h
  | some x => rw [hb] at h; exact ⟨x.2, by rw [← Option.some.inj h]⟩
theorem c1_1_true : F_count_of [.int (somQ (0 + 1) true).length, .int (1 : Nat)] S = .ok (.int 1) S := by kernel_rfl
theorem c1_2_true : F_count_of [.int (somQ (0 + 1) true).length, .int (2 : Nat)] S = .ok (.int 1) S := by kernel_rfl
theorem c1_3_true : F_count_of [.int (somQ (0 + 1) true).length, .int (3 : Nat)] S = .ok (.int 1) S := by kernel_rfl
theorem c1_4_true : F_count_of [.int (somQ (0 + 1) true).length, .int (4 : Nat)] S = .ok (.int 1) S := by kernel_rfl
theorem c1_5_true : F_count_of [.int (somQ (0 + 1) true).length, .int (5 : Nat)] S = .ok (.int 1) S := by kernel_rfl
theorem c1_6_true : F_count_of [.int (somQ (0 + 1) true).length, .int (6 : Nat)] S = .ok (.int 1) S := by kernel_rfl
theorem c1_7_true : F_count_of [.int (somQ (0 + 1) true).length, .int (7 : Nat)] S = .ok (.int 1) S := by kernel_rfl
theorem c1_8_true : F_count_of [.int (somQ (0 + 1) true).length, .int (8 : Nat)] S = .ok (.int 1) S := by kernel_rfl
theorem c1_1_false : F_count_of [.int (somQ (0 + 1) false).length, .int (1 : Nat)] S = .ok (.int 1) S := by kernel_rfl
theorem c1_2_false : F_count_of [.int (somQ (0 + 1) false).length, .int (2 : Nat)] S = .ok (.int 1) S := by kernel_rfl
theorem c1_3_false : F_count_of [.int (somQ (0 + 1) false).length, .int (3 : Nat)] S = .ok (.int 1) S := by kernel_rfl
theorem c1_4_false : F_count_of [.int (somQ (0 + 1) false).length, .int (4 : Nat)] S = .ok (.int 1) S := by kernel_rfl
theorem c1_5_false : F_count_of [.int (somQ (0 + 1) false).length, .int (5 : Nat)] S = .ok (.int 1) S := by kernel_rfl
theorem c1_6_false : F_count_of [.int (somQ (0 + 1) false).length, .int (6 : Nat)] S = .ok (.int 1) S := by kernel_rfl
theorem c1_7_false : F_count_of [.int (somQ (0 + 1) false).length, .int (7 : Nat)] S = .ok (.int 1) S := by kernel_rfl
theorem c1_8_false : F_count_of [.int (somQ (0 + 1) false).length, .int (8 : Nat)] S = .ok (.int 1) S := by kernel_rfl
theorem c2_2 : F_count_of [.int (somQ (1 + 1) true).length, .int (2 : Nat)] S = .ok (.int 10) S := by kernel_rfl
theorem c2_4 : F_count_of [.int (somQ (1 + 1) true).length, .int (4 : Nat)] S = .ok (.int 35) S := by kernel_rfl
theorem c2_6 : F_count_of [.int (somQ (1 + 1) true).length, .int (6 : Nat)] S = .ok (.int 84) S := by kernel_rfl
theorem c2_8 : F_count_of [.int (somQ (1 + 1) true).length, .int (8 : Nat)] S = .ok (.int 165) S := by kernel_rfl
theorem c2f : F_count_of [.int (somQ (1 + 1) false).length, .int (2 : Nat)] S = .ok (.int 6) S := by kernel_rfl
theorem c3f : F_count_of [.int (somQ (2 + 1) false).length, .int (3 : Nat)] S = .ok (.int 84) S := by kernel_rfl
theorem c3t : F_count_of [.int (somQ (2 + 1) true).length, .int (3 : Nat)] S = .ok (.int 455) S := by kernel_rfl
theorem isw (n : Nat) (b : Bool) (h : n = 0 ∨ n = 1 ∨ n = 2) : (somQ (n + 1) b).all (fun r => isW (n + 1) r) = true ∧ (somQ (n + 1) b).length ≤ 1000 := by
  rcases h with rfl | rfl | rfl <;> cases b <;> decide +kernel
theorem one_best (m : Nat) (b : Bool) (g : Goal) (hm : 1 ≤ m) (h8 : m ≤ 8) : F_best_value [.int 1, .int (m : Int), bQ b, gD g] S = .ok (.tup [.int 1, .int (m : Int)]) S ∧ F_best_plan [.int 1, .int (m : Int), bQ b, gD g] S = .ok (vP (List.replicate m [1])) S := by
  have hs : F_single_weighings [.int (0 + 1 : Nat), bQ b] S = .ok (eLT (somQ (0 + 1) b)) S := by cases b; exact som_1f S; exact som_1t S
  have hc : F_count_of [.int (somQ (0 + 1) b).length, .int (m : Int)] S = .ok (.int 1) S := by
    have h : m = 1 ∨ m = 2 ∨ m = 3 ∨ m = 4 ∨ m = 5 ∨ m = 6 ∨ m = 7 ∨ m = 8 := by omega
    cases b
    · rcases h with rfl | rfl | rfl | rfl | rfl | rfl | rfl | rfl
      · exact c1_1_false
      · exact c1_2_false
      · exact c1_3_false
      · exact c1_4_false
      · exact c1_5_false
      · exact c1_6_false
      · exact c1_7_false
      · exact c1_8_false
    · rcases h with rfl | rfl | rfl | rfl | rfl | rfl | rfl | rfl
      · exact c1_1_true
      · exact c1_2_true
      · exact c1_3_true
      · exact c1_4_true
      · exact c1_5_true
      · exact c1_6_true
      · exact c1_7_true
      · exact c1_8_true
  obtain ⟨w1, w2⟩ := isw 0 b (.inl rfl)
  have hb := one_all ⟨m, by omega⟩ (by show m ≠ 0; omega) b
  have hg : bestOf (0 + 1) g (somQ (0 + 1) b) m = some ((1, (m : Int)), List.replicate m [1]) := by
    cases g
    · exact hb.1
    · exact hb.2.1
    · exact hb.2.2
  have := best (S := S) (n := 0) (m := m) g (by omega) (by omega) h8 hs hc (by omega) w2 (fun j hj => idx_1 ⟨m, by omega⟩ b j hj) w1 hg (N := .int 1) rfl rfl rfl rfl rfl (vP_eq _).symm
  exact this
theorem f2s_2 : F_best_value [.int 2, .int 2, .str [98, 111, 116, 104], .str [115, 117, 109]] S = .ok (.tup [.int 1, .int 1]) S := by
  obtain ⟨p, hb⟩ := of_map v2s_2
  exact (best (S := S) (n := 1) (m := 2) (b := true) .sum (by omega) (by omega) (by omega) (som_2t S) c2_2 (by decide) (isw 1 true (by omega)).2 (fun j _ => idx_2 j) (isw 1 true (by omega)).1 hb rfl rfl rfl rfl rfl rfl).1
theorem f2w_2 : F_best_value [.int 2, .int 2, .str [98, 111, 116, 104], .str [119, 111, 114, 115, 116]] S = .ok (.tup [.int 1, .int 2]) S ∧ F_best_plan [.int 2, .int 2, .str [98, 111, 116, 104], .str [119, 111, 114, 115, 116]] S = .ok (eTT [[1, -1], [1, 1]]) S := by
  have hb := v2w_2
  exact (best (S := S) (n := 1) (m := 2) (b := true) .worst (by omega) (by omega) (by omega) (som_2t S) c2_2 (by decide) (isw 1 true (by omega)).2 (fun j _ => idx_2 j) (isw 1 true (by omega)).1 hb rfl rfl rfl rfl rfl rfl)
theorem f2d_2 : F_best_value [.int 2, .int 2, .str [98, 111, 116, 104], .str [119, 104, 111, 108, 101]] S = .ok (.tup [.int 1, .int 4]) S := by
  obtain ⟨p, hb⟩ := of_map v2d_2
  exact (best (S := S) (n := 1) (m := 2) (b := true) .whole (by omega) (by omega) (by omega) (som_2t S) c2_2 (by decide) (isw 1 true (by omega)).2 (fun j _ => idx_2 j) (isw 1 true (by omega)).1 hb rfl rfl rfl rfl rfl rfl).1
theorem f2s_4 : F_best_value [.int 2, .int 4, .str [98, 111, 116, 104], .str [115, 117, 109]] S = .ok (.tup [.int 1, .int 2]) S := by
  obtain ⟨p, hb⟩ := of_map v2s_4
  exact (best (S := S) (n := 1) (m := 4) (b := true) .sum (by omega) (by omega) (by omega) (som_2t S) c2_4 (by decide) (isw 1 true (by omega)).2 (fun j _ => idx_2 j) (isw 1 true (by omega)).1 hb rfl rfl rfl rfl rfl rfl).1
theorem f2w_4 : F_best_value [.int 2, .int 4, .str [98, 111, 116, 104], .str [119, 111, 114, 115, 116]] S = .ok (.tup [.int 1, .int 4]) S ∧ F_best_plan [.int 2, .int 4, .str [98, 111, 116, 104], .str [119, 111, 114, 115, 116]] S = .ok (eTT [[1, -1], [1, -1], [1, 1], [1, 1]]) S := by
  have hb := v2w_4
  exact (best (S := S) (n := 1) (m := 4) (b := true) .worst (by omega) (by omega) (by omega) (som_2t S) c2_4 (by decide) (isw 1 true (by omega)).2 (fun j _ => idx_2 j) (isw 1 true (by omega)).1 hb rfl rfl rfl rfl rfl rfl)
theorem f2d_4 : F_best_value [.int 2, .int 4, .str [98, 111, 116, 104], .str [119, 104, 111, 108, 101]] S = .ok (.tup [.int 1, .int 16]) S := by
  obtain ⟨p, hb⟩ := of_map v2d_4
  exact (best (S := S) (n := 1) (m := 4) (b := true) .whole (by omega) (by omega) (by omega) (som_2t S) c2_4 (by decide) (isw 1 true (by omega)).2 (fun j _ => idx_2 j) (isw 1 true (by omega)).1 hb rfl rfl rfl rfl rfl rfl).1
theorem f2s_6 : F_best_value [.int 2, .int 6, .str [98, 111, 116, 104], .str [115, 117, 109]] S = .ok (.tup [.int 1, .int 3]) S := by
  obtain ⟨p, hb⟩ := of_map v2s_6
  exact (best (S := S) (n := 1) (m := 6) (b := true) .sum (by omega) (by omega) (by omega) (som_2t S) c2_6 (by decide) (isw 1 true (by omega)).2 (fun j _ => idx_2 j) (isw 1 true (by omega)).1 hb rfl rfl rfl rfl rfl rfl).1
theorem f2w_6 : F_best_value [.int 2, .int 6, .str [98, 111, 116, 104], .str [119, 111, 114, 115, 116]] S = .ok (.tup [.int 1, .int 6]) S ∧ F_best_plan [.int 2, .int 6, .str [98, 111, 116, 104], .str [119, 111, 114, 115, 116]] S = .ok (eTT [[1, -1], [1, -1], [1, -1], [1, 1], [1, 1], [1, 1]]) S := by
  have hb := v2w_6
  exact (best (S := S) (n := 1) (m := 6) (b := true) .worst (by omega) (by omega) (by omega) (som_2t S) c2_6 (by decide) (isw 1 true (by omega)).2 (fun j _ => idx_2 j) (isw 1 true (by omega)).1 hb rfl rfl rfl rfl rfl rfl)
theorem f2d_6 : F_best_value [.int 2, .int 6, .str [98, 111, 116, 104], .str [119, 104, 111, 108, 101]] S = .ok (.tup [.int 1, .int 36]) S := by
  obtain ⟨p, hb⟩ := of_map v2d_6
  exact (best (S := S) (n := 1) (m := 6) (b := true) .whole (by omega) (by omega) (by omega) (som_2t S) c2_6 (by decide) (isw 1 true (by omega)).2 (fun j _ => idx_2 j) (isw 1 true (by omega)).1 hb rfl rfl rfl rfl rfl rfl).1
theorem f2s_8 : F_best_value [.int 2, .int 8, .str [98, 111, 116, 104], .str [115, 117, 109]] S = .ok (.tup [.int 1, .int 4]) S := by
  obtain ⟨p, hb⟩ := of_map v2s_8
  exact (best (S := S) (n := 1) (m := 8) (b := true) .sum (by omega) (by omega) (by omega) (som_2t S) c2_8 (by decide) (isw 1 true (by omega)).2 (fun j _ => idx_2 j) (isw 1 true (by omega)).1 hb rfl rfl rfl rfl rfl rfl).1
theorem f2w_8 : F_best_value [.int 2, .int 8, .str [98, 111, 116, 104], .str [119, 111, 114, 115, 116]] S = .ok (.tup [.int 1, .int 8]) S ∧ F_best_plan [.int 2, .int 8, .str [98, 111, 116, 104], .str [119, 111, 114, 115, 116]] S = .ok (eTT [[1, -1], [1, -1], [1, -1], [1, -1], [1, 1], [1, 1], [1, 1], [1, 1]]) S := by
  have hb := v2w_8
  exact (best (S := S) (n := 1) (m := 8) (b := true) .worst (by omega) (by omega) (by omega) (som_2t S) c2_8 (by decide) (isw 1 true (by omega)).2 (fun j _ => idx_2 j) (isw 1 true (by omega)).1 hb rfl rfl rfl rfl rfl rfl)
theorem f2d_8 : F_best_value [.int 2, .int 8, .str [98, 111, 116, 104], .str [119, 104, 111, 108, 101]] S = .ok (.tup [.int 1, .int 64]) S := by
  obtain ⟨p, hb⟩ := of_map v2d_8
  exact (best (S := S) (n := 1) (m := 8) (b := true) .whole (by omega) (by omega) (by omega) (som_2t S) c2_8 (by decide) (isw 1 true (by omega)).2 (fun j _ => idx_2 j) (isw 1 true (by omega)).1 hb rfl rfl rfl rfl rfl rfl).1
theorem f2f : F_best_value [.int 2, .int 2, .str [111, 110, 101], .str [115, 117, 109]] S = .ok (.tup [.int 2, .int 1]) S := by
  obtain ⟨p, hb⟩ := of_map v2f
  exact (best (S := S) (n := 1) (m := 2) (b := false) .sum (by omega) (by omega) (by omega) (som_2f S) c2f (by decide) (isw 1 false (by omega)).2 (fun j _ => idx_2f j) (isw 1 false (by omega)).1 hb rfl rfl rfl rfl rfl rfl).1
theorem f3f : F_best_value [.int 3, .int 3, .str [111, 110, 101], .str [119, 104, 111, 108, 101]] S = .ok (.tup [.int 1, .int 4]) S ∧ F_best_plan [.int 3, .int 3, .str [111, 110, 101], .str [119, 104, 111, 108, 101]] S = .ok (eTT [[0, 1, 1], [1, 0, 1], [1, 1, 0]]) S := by
  have hb := v3f
  exact (best (S := S) (n := 2) (m := 3) (b := false) .whole (by omega) (by omega) (by omega) (som_3f S) c3f (by decide) (isw 2 false (by omega)).2 (fun j hj => idx_3f ⟨j.val, hj⟩) (isw 2 false (by omega)).1 hb rfl rfl rfl rfl rfl rfl)
theorem f3t : F_best_value [.int 3, .int 3, .str [98, 111, 116, 104], .str [119, 104, 111, 108, 101]] S = .ok (.tup [.int 1, .int 16]) S := by
  obtain ⟨p, hb⟩ := of_map v3t
  exact (best (S := S) (n := 2) (m := 3) (b := true) .whole (by omega) (by omega) (by omega) (som_3t S) c3t (by decide) (isw 2 true (by omega)).2 (fun j hj => idx_3 ⟨j.val, hj⟩) (isw 2 true (by omega)).1 hb rfl rfl rfl rfl rfl rfl).1
theorem f3s : F_best_value [.int 3, .int 3, .str [111, 110, 101], .str [115, 117, 109]] S = .ok (.tup [.int 9, .int 4]) S := by
  obtain ⟨p, hb⟩ := of_map v3s
  exact (best (S := S) (n := 2) (m := 3) (b := false) .sum (by omega) (by omega) (by omega) (som_3f S) c3f (by decide) (isw 2 false (by omega)).2 (fun j hj => idx_3f ⟨j.val, hj⟩) (isw 2 false (by omega)).1 hb rfl rfl rfl rfl rfl rfl).1
def g6 (FV FP FR : Fn) : SM :=
    sIf (bOr (dTest (dB2 (dCall FV (aCons (dC (.int 2)) (aCons (dV 5) (aCons (dC (.str [98, 111, 116, 104])) (aCons (dC (.str [115, 117, 109])) (aNil)))))) (dCall FR (aCons (dC (.int 2)) (aCons (dV 5) (aNil)))) opNe)) (dTest (dB2 (dCall FV (aCons (dC (.int 2)) (aCons (dV 5) (aCons (dC (.str [98, 111, 116, 104])) (aCons (dC (.str [119, 111, 114, 115, 116])) (aNil)))))) (dTup (aCons (dC (.int 1)) (aCons (dV 5) (aNil)))) opNe))) (sRet (dC (.bl false))) (sNext)
theorem g6_eq : s_law_k51_6 = g6 F_best_value F_best_plan F__law_ratio := rfl
def g7 (FV FP FR : Fn) : SM :=
    sIf (dTest (dB2 (dCall FP (aCons (dC (.int 2)) (aCons (dV 5) (aCons (dC (.str [98, 111, 116, 104])) (aCons (dC (.str [119, 111, 114, 115, 116])) (aNil)))))) (dB2 (dB2 (dTup (aCons (dTup (aCons (dC (.int 1)) (aCons (dB1 (dC (.int 1)) opNeg) (aNil)))) (aNil))) (dB2 (dV 5) (dC (.int 2)) opDiv) opMul) (dB2 (dTup (aCons (dTup (aCons (dC (.int 1)) (aCons (dC (.int 1)) (aNil)))) (aNil))) (dB2 (dV 5) (dC (.int 2)) opDiv) opMul) opAdd) opNe)) (sRet (dC (.bl false))) (sNext)
theorem g7_eq : s_law_k51_7 = g7 F_best_value F_best_plan F__law_ratio := rfl
def g8 (FV FP FR : Fn) : SM :=
    sIf (bOr (dTest (dB2 (dCall FV (aCons (dC (.int 2)) (aCons (dV 5) (aCons (dC (.str [98, 111, 116, 104])) (aCons (dC (.str [119, 104, 111, 108, 101])) (aNil)))))) (dTup (aCons (dC (.int 1)) (aCons (dB2 (dV 5) (dV 5) opMul) (aNil)))) opNe)) (dTest (dB2 (dCall FV (aCons (dC (.int 2)) (aCons (dC (.int 2)) (aCons (dC (.str [111, 110, 101])) (aCons (dC (.str [115, 117, 109])) (aNil)))))) (dTup (aCons (dC (.int 2)) (aCons (dC (.int 1)) (aNil)))) opNe))) (sRet (dC (.bl false))) (sNext)
theorem g8_eq : s_law_k51_8 = g8 F_best_value F_best_plan F__law_ratio := rfl
def g9 (FV FP FR : Fn) : SM :=
    sIf (dTest (dB2 (dCall FV (aCons (dC (.int 3)) (aCons (dC (.int 3)) (aCons (dC (.str [111, 110, 101])) (aCons (dC (.str [119, 104, 111, 108, 101])) (aNil)))))) (dTup (aCons (dC (.int 1)) (aCons (dC (.int 4)) (aNil)))) opNe)) (sRet (dC (.bl false))) (sNext)
theorem g9_eq : s_law_k51_9 = g9 F_best_value F_best_plan F__law_ratio := rfl
def g10 (FV FP FR : Fn) : SM :=
    sIf (dTest (dB2 (dCall FP (aCons (dC (.int 3)) (aCons (dC (.int 3)) (aCons (dC (.str [111, 110, 101])) (aCons (dC (.str [119, 104, 111, 108, 101])) (aNil)))))) (dTup (aCons (dTup (aCons (dC (.int 0)) (aCons (dC (.int 1)) (aCons (dC (.int 1)) (aNil))))) (aCons (dTup (aCons (dC (.int 1)) (aCons (dC (.int 0)) (aCons (dC (.int 1)) (aNil))))) (aCons (dTup (aCons (dC (.int 1)) (aCons (dC (.int 1)) (aCons (dC (.int 0)) (aNil))))) (aNil))))) opNe)) (sRet (dC (.bl false))) (sNext)
theorem g10_eq : s_law_k51_10 = g10 F_best_value F_best_plan F__law_ratio := rfl
def g11 (FV FP FR : Fn) : SM :=
    sIf (bOr (dTest (dB2 (dCall FV (aCons (dC (.int 3)) (aCons (dC (.int 3)) (aCons (dC (.str [98, 111, 116, 104])) (aCons (dC (.str [119, 104, 111, 108, 101])) (aNil)))))) (dTup (aCons (dC (.int 1)) (aCons (dC (.int 16)) (aNil)))) opNe)) (dTest (dB2 (dCall FV (aCons (dC (.int 3)) (aCons (dC (.int 3)) (aCons (dC (.str [111, 110, 101])) (aCons (dC (.str [115, 117, 109])) (aNil)))))) (dTup (aCons (dC (.int 9)) (aCons (dC (.int 4)) (aNil)))) opNe))) (sRet (dC (.bl false))) (sNext)
theorem g11_eq : s_law_k51_11 = g11 F_best_value F_best_plan F__law_ratio := rfl
variable {FV FP FR : Fn}
theorem x6 {e : Int} {q1 q2 : D} (h1 : FV [.int 2, .int e, .str [98, 111, 116, 104], .str [115, 117, 109]] S = .ok q1 S) (r : FR [.int 2, .int e] S = .ok q1 S) (h2 : FV [.int 2, .int e, .str [98, 111, 116, 104], .str [119, 111, 114, 115, 116]] S = .ok q2 S) (k1 : ∀ e S, look e S q1 = q1) (k2 : ∀ e S, look e S q2 = q2) (n1 : opNe q1 q1 = some (.bl false)) (n2 : opNe q2 (.tup [.int 1, .int e]) = some (.bl false)) : g6 FV FP FR [.val A, .val (.ref 0), .val o2, .val o3, .val o4, .val (.int e), .non, .non, .non] S = .nx [.val A, .val (.ref 0), .val o2, .val o3, .val o4, .val (.int e), .non, .non, .non] S := by
  simp [g6, h1, r, h2, k1, k2, n1, n2]
theorem x7 {e h : Int} {P a b : D} (hp : FP [.int 2, .int e, .str [98, 111, 116, 104], .str [119, 111, 114, 115, 116]] S = .ok P S) (lk : ∀ e S, look e S P = P) (la : ∀ e S, look e S a = a) (lb : ∀ e S, look e S b = b) (d : opDiv (.int e) (.int 2) = some (.int h)) (m1 : opMul (.tup [.tup [.int 1, .int (-1)]]) (.int h) = some a) (m2 : opMul (.tup [.tup [.int 1, .int 1]]) (.int h) = some b) (ad : opAdd a b = some P) (n1 : opNe P P = some (.bl false)) : g7 FV FP FR [.val A, .val (.ref 0), .val o2, .val o3, .val o4, .val (.int e), .non, .non, .non] S = .nx [.val A, .val (.ref 0), .val o2, .val o3, .val o4, .val (.int e), .non, .non, .non] S := by
  simp [-opMul_tup, g7, hp, lk, la, lb, d, m1, m2, ad, n1]
theorem x8 {e : Int} {q qq p : D} (h1 : FV [.int 2, .int e, .str [98, 111, 116, 104], .str [119, 104, 111, 108, 101]] S = .ok p S) (m : opMul (.int e) (.int e) = some q) (kp : ∀ e S, look e S p = p) (n1 : opNe p (.tup [.int 1, q]) = some (.bl false)) (h2 : FV [.int 2, .int 2, .str [111, 110, 101], .str [115, 117, 109]] S = .ok qq S) (k2 : ∀ e S, look e S qq = qq) (n2 : opNe qq (.tup [.int 2, .int 1]) = some (.bl false)) : g8 FV FP FR [.val A, .val (.ref 0), .val o2, .val o3, .val o4, .val (.int e), .non, .non, .non] S = .nx [.val A, .val (.ref 0), .val o2, .val o3, .val o4, .val (.int e), .non, .non, .non] S := by
  simp [-opMul_int, g8, h1, m, kp, n1, h2, k2, n2]
theorem x9 {p : D} (h : FV [.int 3, .int 3, .str [111, 110, 101], .str [119, 104, 111, 108, 101]] S = .ok p S) (kp : ∀ e S, look e S p = p) (n1 : opNe p (.tup [.int 1, .int 4]) = some (.bl false)) : g9 FV FP FR [.val A, .val (.ref 0), .val o2, .val o3, .val o4, .val o5, .non, .non, .non] S = .nx [.val A, .val (.ref 0), .val o2, .val o3, .val o4, .val o5, .non, .non, .non] S := by
  simp [g9, h, kp, n1]
theorem x10 {p : D} (h : FP [.int 3, .int 3, .str [111, 110, 101], .str [119, 104, 111, 108, 101]] S = .ok p S) (kp : ∀ e S, look e S p = p) (n1 : opNe p (.tup [.tup [.int 0, .int 1, .int 1], .tup [.int 1, .int 0, .int 1], .tup [.int 1, .int 1, .int 0]]) = some (.bl false)) : g10 FV FP FR [.val A, .val (.ref 0), .val o2, .val o3, .val o4, .val o5, .non, .non, .non] S = .nx [.val A, .val (.ref 0), .val o2, .val o3, .val o4, .val o5, .non, .non, .non] S := by
  simp [g10, h, kp, n1]
theorem x11 {p q : D} (h : FV [.int 3, .int 3, .str [98, 111, 116, 104], .str [119, 104, 111, 108, 101]] S = .ok p S) (kp : ∀ e S, look e S p = p) (n1 : opNe p (.tup [.int 1, .int 16]) = some (.bl false)) (h2 : FV [.int 3, .int 3, .str [111, 110, 101], .str [115, 117, 109]] S = .ok q S) (kq : ∀ e S, look e S q = q) (n2 : opNe q (.tup [.int 9, .int 4]) = some (.bl false)) : g11 FV FP FR [.val A, .val (.ref 0), .val o2, .val o3, .val o4, .val o5, .non, .non, .non] S = .nx [.val A, .val (.ref 0), .val o2, .val o3, .val o4, .val o5, .non, .non, .non] S := by
  simp [g11, h, kp, n1, h2, kq, n2]
theorem r_2 : F__law_ratio [.int 2, .int 2] S = .ok (.tup [.int 1, .int 1]) S := by kernel_rfl
theorem s6_2 : s_law_k51_6 [.val A, .val (.ref 0), .val o2, .val o3, .val o4, .val (.int 2), .non, .non, .non] S = .nx [.val A, .val (.ref 0), .val o2, .val o3, .val o4, .val (.int 2), .non, .non, .non] S := by
  rw [g6_eq]
  exact x6 f2s_2 r_2 f2w_2.1 (fun _ _ => rfl) (fun _ _ => rfl) rfl rfl
theorem s7_2 : s_law_k51_7 [.val A, .val (.ref 0), .val o2, .val o3, .val o4, .val (.int 2), .non, .non, .non] S = .nx [.val A, .val (.ref 0), .val o2, .val o3, .val o4, .val (.int 2), .non, .non, .non] S := by
  rw [g7_eq]
  exact x7 (h := 1) (a := .tup [.tup [.int 1, .int (-1)]]) (b := .tup [.tup [.int 1, .int 1]]) f2w_2.2 (fun _ _ => rfl) (fun _ _ => rfl) (fun _ _ => rfl) rfl rfl rfl rfl rfl
theorem s8_2 : s_law_k51_8 [.val A, .val (.ref 0), .val o2, .val o3, .val o4, .val (.int 2), .non, .non, .non] S = .nx [.val A, .val (.ref 0), .val o2, .val o3, .val o4, .val (.int 2), .non, .non, .non] S := by
  rw [g8_eq]
  exact x8 (q := .int 4) f2d_2 (by rw [opMul_int, if_pos (mulOk_of (i := 4) (j := 4) (by unfold Bd; decide) (by unfold Bd; decide) (by omega))]; rfl) (fun _ _ => rfl) rfl f2f (fun _ _ => rfl) rfl
theorem r_4 : F__law_ratio [.int 2, .int 4] S = .ok (.tup [.int 1, .int 2]) S := by kernel_rfl
theorem s6_4 : s_law_k51_6 [.val A, .val (.ref 0), .val o2, .val o3, .val o4, .val (.int 4), .non, .non, .non] S = .nx [.val A, .val (.ref 0), .val o2, .val o3, .val o4, .val (.int 4), .non, .non, .non] S := by
  rw [g6_eq]
  exact x6 f2s_4 r_4 f2w_4.1 (fun _ _ => rfl) (fun _ _ => rfl) rfl rfl
theorem s7_4 : s_law_k51_7 [.val A, .val (.ref 0), .val o2, .val o3, .val o4, .val (.int 4), .non, .non, .non] S = .nx [.val A, .val (.ref 0), .val o2, .val o3, .val o4, .val (.int 4), .non, .non, .non] S := by
  rw [g7_eq]
  exact x7 (h := 2) (a := .tup [.tup [.int 1, .int (-1)], .tup [.int 1, .int (-1)]]) (b := .tup [.tup [.int 1, .int 1], .tup [.int 1, .int 1]]) f2w_4.2 (fun _ _ => rfl) (fun _ _ => rfl) (fun _ _ => rfl) rfl rfl rfl rfl rfl
theorem s8_4 : s_law_k51_8 [.val A, .val (.ref 0), .val o2, .val o3, .val o4, .val (.int 4), .non, .non, .non] S = .nx [.val A, .val (.ref 0), .val o2, .val o3, .val o4, .val (.int 4), .non, .non, .non] S := by
  rw [g8_eq]
  exact x8 (q := .int 16) f2d_4 (by rw [opMul_int, if_pos (mulOk_of (i := 4) (j := 4) (by unfold Bd; decide) (by unfold Bd; decide) (by omega))]; rfl) (fun _ _ => rfl) rfl f2f (fun _ _ => rfl) rfl
theorem r_6 : F__law_ratio [.int 2, .int 6] S = .ok (.tup [.int 1, .int 3]) S := by kernel_rfl
theorem s6_6 : s_law_k51_6 [.val A, .val (.ref 0), .val o2, .val o3, .val o4, .val (.int 6), .non, .non, .non] S = .nx [.val A, .val (.ref 0), .val o2, .val o3, .val o4, .val (.int 6), .non, .non, .non] S := by
  rw [g6_eq]
  exact x6 f2s_6 r_6 f2w_6.1 (fun _ _ => rfl) (fun _ _ => rfl) rfl rfl
theorem s7_6 : s_law_k51_7 [.val A, .val (.ref 0), .val o2, .val o3, .val o4, .val (.int 6), .non, .non, .non] S = .nx [.val A, .val (.ref 0), .val o2, .val o3, .val o4, .val (.int 6), .non, .non, .non] S := by
  rw [g7_eq]
  exact x7 (h := 3) (a := .tup [.tup [.int 1, .int (-1)], .tup [.int 1, .int (-1)], .tup [.int 1, .int (-1)]]) (b := .tup [.tup [.int 1, .int 1], .tup [.int 1, .int 1], .tup [.int 1, .int 1]]) f2w_6.2 (fun _ _ => rfl) (fun _ _ => rfl) (fun _ _ => rfl) rfl rfl rfl rfl rfl
theorem s8_6 : s_law_k51_8 [.val A, .val (.ref 0), .val o2, .val o3, .val o4, .val (.int 6), .non, .non, .non] S = .nx [.val A, .val (.ref 0), .val o2, .val o3, .val o4, .val (.int 6), .non, .non, .non] S := by
  rw [g8_eq]
  exact x8 (q := .int 36) f2d_6 (by rw [opMul_int, if_pos (mulOk_of (i := 4) (j := 4) (by unfold Bd; decide) (by unfold Bd; decide) (by omega))]; rfl) (fun _ _ => rfl) rfl f2f (fun _ _ => rfl) rfl
theorem r_8 : F__law_ratio [.int 2, .int 8] S = .ok (.tup [.int 1, .int 4]) S := by kernel_rfl
theorem s6_8 : s_law_k51_6 [.val A, .val (.ref 0), .val o2, .val o3, .val o4, .val (.int 8), .non, .non, .non] S = .nx [.val A, .val (.ref 0), .val o2, .val o3, .val o4, .val (.int 8), .non, .non, .non] S := by
  rw [g6_eq]
  exact x6 f2s_8 r_8 f2w_8.1 (fun _ _ => rfl) (fun _ _ => rfl) rfl rfl
theorem s7_8 : s_law_k51_7 [.val A, .val (.ref 0), .val o2, .val o3, .val o4, .val (.int 8), .non, .non, .non] S = .nx [.val A, .val (.ref 0), .val o2, .val o3, .val o4, .val (.int 8), .non, .non, .non] S := by
  rw [g7_eq]
  exact x7 (h := 4) (a := .tup [.tup [.int 1, .int (-1)], .tup [.int 1, .int (-1)], .tup [.int 1, .int (-1)], .tup [.int 1, .int (-1)]]) (b := .tup [.tup [.int 1, .int 1], .tup [.int 1, .int 1], .tup [.int 1, .int 1], .tup [.int 1, .int 1]]) f2w_8.2 (fun _ _ => rfl) (fun _ _ => rfl) (fun _ _ => rfl) rfl rfl rfl rfl rfl
theorem s8_8 : s_law_k51_8 [.val A, .val (.ref 0), .val o2, .val o3, .val o4, .val (.int 8), .non, .non, .non] S = .nx [.val A, .val (.ref 0), .val o2, .val o3, .val o4, .val (.int 8), .non, .non, .non] S := by
  rw [g8_eq]
  exact x8 (q := .int 64) f2d_8 (by rw [opMul_int, if_pos (mulOk_of (i := 4) (j := 4) (by unfold Bd; decide) (by unfold Bd; decide) (by omega))]; rfl) (fun _ _ => rfl) rfl f2f (fun _ _ => rfl) rfl
theorem s9 : s_law_k51_9 [.val A, .val (.ref 0), .val o2, .val o3, .val o4, .val o5, .non, .non, .non] S = .nx [.val A, .val (.ref 0), .val o2, .val o3, .val o4, .val o5, .non, .non, .non] S := by
  rw [g9_eq]
  exact x9 f3f.1 (fun _ _ => rfl) rfl
theorem s10 : s_law_k51_10 [.val A, .val (.ref 0), .val o2, .val o3, .val o4, .val o5, .non, .non, .non] S = .nx [.val A, .val (.ref 0), .val o2, .val o3, .val o4, .val o5, .non, .non, .non] S := by
  rw [g10_eq]
  exact x10 f3f.2 (fun _ _ => rfl) rfl
theorem s11 : s_law_k51_11 [.val A, .val (.ref 0), .val o2, .val o3, .val o4, .val o5, .non, .non, .non] S = .nx [.val A, .val (.ref 0), .val o2, .val o3, .val o4, .val o5, .non, .non, .non] S := by
  rw [g11_eq]
  exact x11 f3t (fun _ _ => rfl) rfl f3s (fun _ _ => rfl) rfl
def tail : SM := sSeq (s_law_k51_12)
    (sSeq (s_law_k51_13)
    (sSeq (s_law_k51_14)
    (sSeq (s_law_k51_15)
    (sSeq (s_law_k51_16)
    (sSeq (s_law_k51_17)
    (sSeq (s_law_k51_18)
    (sSeq (s_law_k51_19)
    (s_law_k51_20))))))))
theorem tail_true : tail [.val A, .val (.ref 0), .val o2, .val o3, .val o4, .val o5, .non, .non, .non] S = .rt (.bl true) S := by kernel_rfl
theorem body_eq : b_law_k51 = sSeq (s_law_k51_1) (sSeq (s_law_k51_2) (sSeq (s_law_k51_3) (sSeq (s_law_k51_4) (sSeq (s_law_k51_5) (sSeq (s_law_k51_6) (sSeq (s_law_k51_7) (sSeq (s_law_k51_8) (sSeq (s_law_k51_9) (sSeq (s_law_k51_10) (sSeq (s_law_k51_11) tail)))))))))) := rfl
theorem s4 {m : Nat} {b : Bool} (hm : 1 ≤ m) (h8 : m ≤ 8) : ∃ o4, s_law_k51_4 [.val A, .val (.ref 0), .val (.int (m : Int)), .val (bQ b), .non, .non, .non, .non, .non] S = .nx [.val A, .val (.ref 0), .val (.int (m : Int)), .val (bQ b), .val o4, .non, .non, .non, .non] S := by
  obtain ⟨e', t1, h⟩ := forA (S := S) (g := gName 4) (body := w_law_k51_1) gD (fun j e => (j = 0 ∧ e = [.val A, .val (.ref 0), .val (.int (m : Int)), .val (bQ b), .non, .non, .non, .non, .non]) ∨ ∃ o4, e = [.val A, .val (.ref 0), .val (.int (m : Int)), .val (bQ b), .val o4, .non, .non, .non, .non]) [Goal.sum, .worst, .whole] [.val A, .val (.ref 0), .val (.int (m : Int)), .val (bQ b), .non, .non, .non, .non, .non] (.inl ⟨rfl, rfl⟩) (by
    intro j e g hg he
    obtain ⟨f1, f2⟩ := one_best (S := S) m b g hm h8
    have mu : opMul (.tup [.tup [.int 1]]) (.int (m : Int)) = some (vP (List.replicate m [1])) := by
      have e1 : DL.D.tup [.int 1] = vTI [1] := (vT_def DL.D.int [1]).symm
      rw [e1]; exact opMul_repT vTI [1] m (by omega)
    have n1 : opNe (.tup [.int 1, .int (m : Int)]) (.tup [.int 1, .int (m : Int)]) = some (.bl false) := by
      have e1 : DL.D.tup [.int 1, .int (m : Int)] = vTI [1, (m : Int)] := (vT_def DL.D.int [1, (m : Int)]).symm
      rw [e1, opNe_vT]; simp
    have n2 : opNe (vP (List.replicate m [1])) (vP (List.replicate m [1])) = some (.bl false) := by rw [opNe_vT]; simp
    have lb : ∀ e S, look e S (bQ b) = bQ b := fun _ _ => by cases b <;> rfl
    have key : ∀ o : Sl, gName 4 (gD g) [.val A, .val (.ref 0), .val (.int (m : Int)), .val (bQ b), o, .non, .non, .non, .non] S = .nx [.val A, .val (.ref 0), .val (.int (m : Int)), .val (bQ b), .val (gD g), .non, .non, .non, .non] S ∧ w_law_k51_1 [.val A, .val (.ref 0), .val (.int (m : Int)), .val (bQ b), .val (gD g), .non, .non, .non, .non] S = .nx [.val A, .val (.ref 0), .val (.int (m : Int)), .val (bQ b), .val (gD g), .non, .non, .non, .non] S := fun o => by
      refine ⟨rfl, ?_⟩
      simp [-opMul_tup, -opNe_vT, w_law_k51_1, f1, n1, f2, mu, n2]
    rcases he with ⟨_, rfl⟩ | ⟨o4, rfl⟩
    · exact ⟨_, _, (key .non).1, (key .non).2, .inr ⟨_, rfl⟩⟩
    · exact ⟨_, _, (key (.val o4)).1, (key (.val o4)).2, .inr ⟨_, rfl⟩⟩)
  rcases h with ⟨z, _⟩ | ⟨o4, rfl⟩
  · cases z
  · exact ⟨o4, t1⟩
theorem seq_step {a b : SM} {e e1 : Env} {S S1 : Store} (h : a e S = .nx e1 S1) : sSeq a b e S = b e1 S1 := by
  rw [sSeq_ap, h]
theorem law_true (ns : List Int) (hn : ns.length ≤ 63) : ∃ S, F_law_k51 [.scr (ns.map .int)] [] = .ok (.bl true) S := by
  have t0 := m__law_town ns (by omega)
  obtain ⟨x0, S1, d1, lx, p1⟩ := n_draw (town0 ns) (by omega) 8 (by decide) (by decide) (by omega)
  obtain ⟨m, hm⟩ : ∃ m : Nat, m = 1 + x0 := ⟨_, rfl⟩
  have e1 : (1 : Int) + (x0 : Int) = (m : Int) := by omega
  obtain ⟨b, S2, hb, d2, p2⟩ := n_pick p1.t (by omega) (by omega) bQ [true, false] (by simp) (by simp)
  have lb : DL.D.lst [.str [98, 111, 116, 104], .str [111, 110, 101]] = vL bQ [true, false] := by rw [vL_def]; rfl
  obtain ⟨o4, h4⟩ := s4 (S := S2) (A := sD ns) (b := b) (m := m) (by omega) (by omega)
  obtain ⟨x5, S3, d5, l5, p5⟩ := n_draw p2.t (by omega) 4 (by decide) (by decide) (by omega)
  have g1 : s_law_k51_1 [.val (sD ns), .non, .non, .non, .non, .non, .non, .non, .non] [] = .nx [.val (sD ns), .val (.ref 0), .non, .non, .non, .non, .non, .non, .non] [.lst (.int 0 :: ns.map .int)] := by simp [s_law_k51_1, t0]
  have g2 : s_law_k51_2 [.val (sD ns), .val (.ref 0), .non, .non, .non, .non, .non, .non, .non] [.lst (.int 0 :: ns.map .int)] = .nx [.val (sD ns), .val (.ref 0), .val (.int (m : Int)), .non, .non, .non, .non, .non, .non] S1 := by simp [s_law_k51_2, d1, e1]
  have g3 : s_law_k51_3 [.val (sD ns), .val (.ref 0), .val (.int (m : Int)), .non, .non, .non, .non, .non, .non] S1 = .nx [.val (sD ns), .val (.ref 0), .val (.int (m : Int)), .val (bQ b), .non, .non, .non, .non, .non] S2 := by simp [s_law_k51_3, lb, d2]
  obtain ⟨e, he, hx⟩ : ∃ e : Int, (e = 2 ∨ e = 4 ∨ e = 6 ∨ e = 8) ∧ 2 * (1 + (x5 : Int)) = e := ⟨_, by omega, rfl⟩
  have mo : opMul (.int 2) (.int (1 + (x5 : Int))) = some (.int e) := by rw [opMul_int, if_pos (mulOk_of (i := 2) (j := 3) (by unfold Bd; decide) (by unfold Bd; omega) (by omega)), hx]
  have g5 : s_law_k51_5 [.val (sD ns), .val (.ref 0), .val (.int (m : Int)), .val (bQ b), .val o4, .non, .non, .non, .non] S2 = .nx [.val (sD ns), .val (.ref 0), .val (.int (m : Int)), .val (bQ b), .val o4, .val (.int e), .non, .non, .non] S3 := by simp [-opMul_int, s_law_k51_5, d5, mo]
  have g68 : ∀ A o2 o3 o4, s_law_k51_6 [.val A, .val (.ref 0), .val o2, .val o3, .val o4, .val (.int e), .non, .non, .non] S3 = .nx [.val A, .val (.ref 0), .val o2, .val o3, .val o4, .val (.int e), .non, .non, .non] S3 ∧ s_law_k51_7 [.val A, .val (.ref 0), .val o2, .val o3, .val o4, .val (.int e), .non, .non, .non] S3 = .nx [.val A, .val (.ref 0), .val o2, .val o3, .val o4, .val (.int e), .non, .non, .non] S3 ∧ s_law_k51_8 [.val A, .val (.ref 0), .val o2, .val o3, .val o4, .val (.int e), .non, .non, .non] S3 = .nx [.val A, .val (.ref 0), .val o2, .val o3, .val o4, .val (.int e), .non, .non, .non] S3 := fun A o2 o3 o4 => by
    rcases he with rfl | rfl | rfl | rfl
    · exact ⟨s6_2, s7_2, s8_2⟩
    · exact ⟨s6_4, s7_4, s8_4⟩
    · exact ⟨s6_6, s7_6, s8_6⟩
    · exact ⟨s6_8, s7_8, s8_8⟩
  obtain ⟨g6, g7, g8⟩ := g68 (sD ns) (.int (m : Int)) (bQ b) o4
  have g9 := s9 (S := S3) (A := sD ns) (o2 := .int (m : Int)) (o3 := bQ b) (o4 := o4) (o5 := .int e)
  have g10 := s10 (S := S3) (A := sD ns) (o2 := .int (m : Int)) (o3 := bQ b) (o4 := o4) (o5 := .int e)
  have g11 := s11 (S := S3) (A := sD ns) (o2 := .int (m : Int)) (o3 := bQ b) (o4 := o4) (o5 := .int e)
  have g12 := tail_true (S := S3) (A := sD ns) (o2 := .int (m : Int)) (o3 := bQ b) (o4 := o4) (o5 := .int e)
  have hb : b_law_k51 [.val (sD ns), .non, .non, .non, .non, .non, .non, .non, .non] [] = .rt (.bl true) S3 := by
    rw [body_eq, seq_step g1, seq_step g2, seq_step g3, seq_step h4, seq_step g5, seq_step g6, seq_step g7, seq_step g8, seq_step g9, seq_step g10, seq_step g11]
    exact g12
  refine ⟨S3, ?_⟩
  show (match b_law_k51 [.val (sD ns), .non, .non, .non, .non, .non, .non, .non, .non] [] with | .nx _ S => Res.ok .non S | .rt d S => .ok d S | .exc c _ S => .exc c S | _ => .stuck) = _
  rw [hb]
end
end DL.k51

set_option Elab.async false
set_option linter.all false
set_option maxRecDepth 100000
set_option maxHeartbeats 4000000
namespace DL.k51
open PySem PySem.Spec PyProof.Rows L2 DL
def names : List Str := ["WeighError", "InvalidPlan", "InvalidList", "InvalidSum", "InvalidResults", "InvalidThings", "InvalidSort", "InvalidGoal", "InvalidNumber", "InvalidNames", "InvalidWeighing", "InvalidMany", "InvalidShares", "InvalidText", "Unequal", "NotTold", "NotSettled", "NotBorne", "LastOne", "TooMany", "NothingToUndo", "Packing", "Bench"]
def vals : List Str := ["all_weighings", "barrier", "bears", "beside", "best_factors", "best_plan", "best_shares", "best_value", "can_tell", "estimates", "fewest_wrong", "format_plan", "is_barrier", "is_shares", "leading", "least_spread", "left_over", "mended", "naive_spread", "renamed", "seen", "settles", "shares_spread", "spread", "strength", "ties", "turned", "worst_lost"]
theorem all_mk {l : PySem.W.OpenLaw} {w : World} {K : PySem.W.Frag} {h : Heap} {mg : Str → Option Value} {fa f0 f1 f2 f3 f4 f5 f6 f7 f8 f9 f10 f11 f12 f13 f14 f15 f16 f17 f18 f19 f20 f21 f22 f23 f24 C0 C1 C2 C3 C4 C5 C6 C7 C8 C9 C10 C11 C12 C13 C14 C15 C16 C17 C18 C19 C20 : Addr} (X : K.In h) (G : h.Ns mainGlobals mg) (hfa : mg "law" = some (.ref fa))
    {od0 an0 od1 an1 od2 an2 od3 an3 od4 an4 od5 an5 od6 an6 od7 an7 od8 an8 od9 an9 od10 an10 od11 an11 od12 an12 od13 an13 od14 an14 od15 an15 od16 an16 od17 an17 od18 an18 od19 an19 od20 an20 od21 an21 od22 an22 od23 an23 od24 an24 : Option Addr} {sl0 sl1 sl2 sl3 sl4 sl5 sl6 sl7 sl8 sl9 sl10 sl11 sl12 sl13 sl14 sl15 sl16 sl17 sl18 sl19 sl20 sl21 sl22 sl23 sl24 : Array (Option Value)} {oc0 kV0 dc0 pm0 cd0 ct0 oc1 kV1 dc1 pm1 cd1 ct1 oc2 kV2 dc2 pm2 cd2 ct2 oc3 kV3 dc3 pm3 cd3 ct3 oc4 kV4 dc4 pm4 cd4 ct4 oc5 kV5 dc5 pm5 cd5 ct5 oc6 kV6 dc6 pm6 cd6 ct6 oc7 kV7 dc7 pm7 cd7 ct7 oc8 kV8 dc8 pm8 cd8 ct8 oc9 kV9 dc9 pm9 cd9 ct9 oc10 kV10 dc10 pm10 cd10 ct10 oc11 kV11 dc11 pm11 cd11 ct11 oc12 kV12 dc12 pm12 cd12 ct12 oc13 kV13 dc13 pm13 cd13 ct13 oc14 kV14 dc14 pm14 cd14 ct14 oc15 kV15 dc15 pm15 cd15 ct15 oc16 kV16 dc16 pm16 cd16 ct16 oc17 kV17 dc17 pm17 cd17 ct17 oc18 kV18 dc18 pm18 cd18 ct18 oc19 kV19 dc19 pm19 cd19 ct19 oc20 kV20 dc20 pm20 cd20 ct20 oc21 kV21 dc21 pm21 cd21 ct21 oc22 kV22 dc22 pm22 cd22 ct22 oc23 kV23 dc23 pm23 cd23 ct23 oc24 kV24 dc24 pm24 cd24 ct24 : Value}
    (a0 : PySem.W.nsIn K mainGlobals "_law_town" = some (some (.ref f0))) (l0 : K.lookup f0 = some ⟨oc0, od0, .func (PySem.W.fnOf "_law_town" "_law_town" (defArgs (top 43)) (defBody (top 43)) (defScope (top 43)) .none kV0 dc0 pm0 an0 cd0 ct0), sl0⟩) (c0 : PySem.W.codeIn K cd0 "_law_town" = true) (k0 : PySem.W.keepIn K (.ref f0) = true)
    (a1 : PySem.W.nsIn K mainGlobals "_law_draw" = some (some (.ref f1))) (l1 : K.lookup f1 = some ⟨oc1, od1, .func (PySem.W.fnOf "_law_draw" "_law_draw" (defArgs (top 44)) (defBody (top 44)) (defScope (top 44)) .none kV1 dc1 pm1 an1 cd1 ct1), sl1⟩) (c1 : PySem.W.codeIn K cd1 "_law_draw" = true) (k1 : PySem.W.keepIn K (.ref f1) = true)
    (a2 : PySem.W.nsIn K mainGlobals "_law_pick" = some (some (.ref f2))) (l2 : K.lookup f2 = some ⟨oc2, od2, .func (PySem.W.fnOf "_law_pick" "_law_pick" (defArgs (top 45)) (defBody (top 45)) (defScope (top 45)) .none kV2 dc2 pm2 an2 cd2 ct2), sl2⟩) (c2 : PySem.W.codeIn K cd2 "_law_pick" = true) (k2 : PySem.W.keepIn K (.ref f2) = true)
    (a3 : PySem.W.nsIn K mainGlobals "is_between" = some (some (.ref f3))) (l3 : K.lookup f3 = some ⟨oc3, od3, .func (PySem.W.fnOf "is_between" "is_between" (defArgs (top 23)) (defBody (top 23)) (defScope (top 23)) .none kV3 dc3 pm3 an3 cd3 ct3), sl3⟩) (c3 : PySem.W.codeIn K cd3 "is_between" = true) (k3 : PySem.W.keepIn K (.ref f3) = true)
    (a4 : PySem.W.nsIn K mainGlobals "check_things" = some (some (.ref f4))) (l4 : K.lookup f4 = some ⟨oc4, od4, .func (PySem.W.fnOf "check_things" "check_things" (defArgs (top 28)) (defBody (top 28)) (defScope (top 28)) .none kV4 dc4 pm4 an4 cd4 ct4), sl4⟩) (c4 : PySem.W.codeIn K cd4 "check_things" = true) (k4 : PySem.W.keepIn K (.ref f4) = true)
    (a5 : PySem.W.nsIn K mainGlobals "check_sort" = some (some (.ref f5))) (l5 : K.lookup f5 = some ⟨oc5, od5, .func (PySem.W.fnOf "check_sort" "check_sort" (defArgs (top 29)) (defBody (top 29)) (defScope (top 29)) .none kV5 dc5 pm5 an5 cd5 ct5), sl5⟩) (c5 : PySem.W.codeIn K cd5 "check_sort" = true) (k5 : PySem.W.keepIn K (.ref f5) = true)
    (a6 : PySem.W.nsIn K mainGlobals "found_weighings" = some (some (.ref f6))) (l6 : K.lookup f6 = some ⟨oc6, od6, .func (PySem.W.fnOf "found_weighings" "found_weighings" (defArgs (top 30)) (defBody (top 30)) (defScope (top 30)) .none kV6 dc6 pm6 an6 cd6 ct6), sl6⟩) (c6 : PySem.W.codeIn K cd6 "found_weighings" = true) (k6 : PySem.W.keepIn K (.ref f6) = true)
    (a7 : PySem.W.nsIn K mainGlobals "single_weighings" = some (some (.ref f7))) (l7 : K.lookup f7 = some ⟨oc7, od7, .func (PySem.W.fnOf "single_weighings" "single_weighings" (defArgs (top 37)) (defBody (top 37)) (defScope (top 37)) .none kV7 dc7 pm7 an7 cd7 ct7), sl7⟩) (c7 : PySem.W.codeIn K cd7 "single_weighings" = true) (k7 : PySem.W.keepIn K (.ref f7) = true)
    (a8 : PySem.W.nsIn K mainGlobals "count_of" = some (some (.ref f8))) (l8 : K.lookup f8 = some ⟨oc8, od8, .func (PySem.W.fnOf "count_of" "count_of" (defArgs (top 38)) (defBody (top 38)) (defScope (top 38)) .none kV8 dc8 pm8 an8 cd8 ct8), sl8⟩) (c8 : PySem.W.codeIn K cd8 "count_of" = true) (k8 : PySem.W.keepIn K (.ref f8) = true)
    (a9 : PySem.W.nsIn K mainGlobals "square_of" = some (some (.ref f9))) (l9 : K.lookup f9 = some ⟨oc9, od9, .func (PySem.W.fnOf "square_of" "square_of" (defArgs (top 34)) (defBody (top 34)) (defScope (top 34)) .none kV9 dc9 pm9 an9 cd9 ct9), sl9⟩) (c9 : PySem.W.codeIn K cd9 "square_of" = true) (k9 : PySem.W.keepIn K (.ref f9) = true)
    (a10 : PySem.W.nsIn K mainGlobals "determinant" = some (some (.ref f10))) (l10 : K.lookup f10 = some ⟨oc10, od10, .func (PySem.W.fnOf "determinant" "determinant" (defArgs (top 32)) (defBody (top 32)) (defScope (top 32)) .none kV10 dc10 pm10 an10 cd10 ct10), sl10⟩) (c10 : PySem.W.codeIn K cd10 "determinant" = true) (k10 : PySem.W.keepIn K (.ref f10) = true)
    (a11 : PySem.W.nsIn K mainGlobals "divisor_of" = some (some (.ref f11))) (l11 : K.lookup f11 = some ⟨oc11, od11, .func (PySem.W.fnOf "divisor_of" "divisor_of" (defArgs (top 24)) (defBody (top 24)) (defScope (top 24)) .none kV11 dc11 pm11 an11 cd11 ct11), sl11⟩) (c11 : PySem.W.codeIn K cd11 "divisor_of" = true) (k11 : PySem.W.keepIn K (.ref f11) = true)
    (a12 : PySem.W.nsIn K mainGlobals "fraction" = some (some (.ref f12))) (l12 : K.lookup f12 = some ⟨oc12, od12, .func (PySem.W.fnOf "fraction" "fraction" (defArgs (top 25)) (defBody (top 25)) (defScope (top 25)) .none kV12 dc12 pm12 an12 cd12 ct12), sl12⟩) (c12 : PySem.W.codeIn K cd12 "fraction" = true) (k12 : PySem.W.keepIn K (.ref f12) = true)
    (a13 : PySem.W.nsIn K mainGlobals "without_cross" = some (some (.ref f13))) (l13 : K.lookup f13 = some ⟨oc13, od13, .func (PySem.W.fnOf "without_cross" "without_cross" (defArgs (top 33)) (defBody (top 33)) (defScope (top 33)) .none kV13 dc13 pm13 an13 cd13 ct13), sl13⟩) (c13 : PySem.W.codeIn K cd13 "without_cross" = true) (k13 : PySem.W.keepIn K (.ref f13) = true)
    (a14 : PySem.W.nsIn K mainGlobals "value_of" = some (some (.ref f14))) (l14 : K.lookup f14 = some ⟨oc14, od14, .func (PySem.W.fnOf "value_of" "value_of" (defArgs (top 36)) (defBody (top 36)) (defScope (top 36)) .none kV14 dc14 pm14 an14 cd14 ct14), sl14⟩) (c14 : PySem.W.codeIn K cd14 "value_of" = true) (k14 : PySem.W.keepIn K (.ref f14) = true)
    (a15 : PySem.W.nsIn K mainGlobals "is_below" = some (some (.ref f15))) (l15 : K.lookup f15 = some ⟨oc15, od15, .func (PySem.W.fnOf "is_below" "is_below" (defArgs (top 26)) (defBody (top 26)) (defScope (top 26)) .none kV15 dc15 pm15 an15 cd15 ct15), sl15⟩) (c15 : PySem.W.codeIn K cd15 "is_below" = true) (k15 : PySem.W.keepIn K (.ref f15) = true)
    (a16 : PySem.W.nsIn K mainGlobals "found_best" = some (some (.ref f16))) (l16 : K.lookup f16 = some ⟨oc16, od16, .func (PySem.W.fnOf "found_best" "found_best" (defArgs (top 39)) (defBody (top 39)) (defScope (top 39)) .none kV16 dc16 pm16 an16 cd16 ct16), sl16⟩) (c16 : PySem.W.codeIn K cd16 "found_best" = true) (k16 : PySem.W.keepIn K (.ref f16) = true)
    (a17 : PySem.W.nsIn K mainGlobals "best_plan" = some (some (.ref f17))) (l17 : K.lookup f17 = some ⟨oc17, od17, .func (PySem.W.fnOf "best_plan" "best_plan" (defArgs (top 40)) (defBody (top 40)) (defScope (top 40)) .none kV17 dc17 pm17 an17 cd17 ct17), sl17⟩) (c17 : PySem.W.codeIn K cd17 "best_plan" = true) (k17 : PySem.W.keepIn K (.ref f17) = true)
    (a18 : PySem.W.nsIn K mainGlobals "best_value" = some (some (.ref f18))) (l18 : K.lookup f18 = some ⟨oc18, od18, .func (PySem.W.fnOf "best_value" "best_value" (defArgs (top 41)) (defBody (top 41)) (defScope (top 41)) .none kV18 dc18 pm18 an18 cd18 ct18), sl18⟩) (c18 : PySem.W.codeIn K cd18 "best_value" = true) (k18 : PySem.W.keepIn K (.ref f18) = true)
    (a19 : PySem.W.nsIn K mainGlobals "_law_ratio" = some (some (.ref f19))) (l19 : K.lookup f19 = some ⟨oc19, od19, .func (PySem.W.fnOf "_law_ratio" "_law_ratio" (defArgs (top 49)) (defBody (top 49)) (defScope (top 49)) .none kV19 dc19 pm19 an19 cd19 ct19), sl19⟩) (c19 : PySem.W.codeIn K cd19 "_law_ratio" = true) (k19 : PySem.W.keepIn K (.ref f19) = true)
    (a20 : PySem.W.nsIn K mainGlobals "_law_call" = some (some (.ref f20))) (l20 : K.lookup f20 = some ⟨oc20, od20, .func (PySem.W.fnOf "_law_call" "_law_call" (defArgs (top 50)) (defBody (top 50)) (defScope (top 50)) .none kV20 dc20 pm20 an20 cd20 ct20), sl20⟩) (c20 : PySem.W.codeIn K cd20 "_law_call" = true) (k20 : PySem.W.keepIn K (.ref f20) = true)
    (a21 : PySem.W.nsIn K mainGlobals "_law_name" = some (some (.ref f21))) (l21 : K.lookup f21 = some ⟨oc21, od21, .func (PySem.W.fnOf "_law_name" "_law_name" (defArgs (top 47)) (defBody (top 47)) (defScope (top 47)) .none kV21 dc21 pm21 an21 cd21 ct21), sl21⟩) (c21 : PySem.W.codeIn K cd21 "_law_name" = true) (k21 : PySem.W.keepIn K (.ref f21) = true)
    (a22 : PySem.W.nsIn K mainGlobals "_law_outcome" = some (some (.ref f22))) (l22 : K.lookup f22 = some ⟨oc22, od22, .func (PySem.W.fnOf "_law_outcome" "_law_outcome" (defArgs (top 46)) (defBody (top 46)) (defScope (top 46)) .none kV22 dc22 pm22 an22 cd22 ct22), sl22⟩) (c22 : PySem.W.codeIn K cd22 "_law_outcome" = true) (k22 : PySem.W.keepIn K (.ref f22) = true)
    (a23 : PySem.W.nsIn K mainGlobals "_law_raises" = some (some (.ref f23))) (l23 : K.lookup f23 = some ⟨oc23, od23, .func (PySem.W.fnOf "_law_raises" "_law_raises" (defArgs (top 48)) (defBody (top 48)) (defScope (top 48)) .none kV23 dc23 pm23 an23 cd23 ct23), sl23⟩) (c23 : PySem.W.codeIn K cd23 "_law_raises" = true) (k23 : PySem.W.keepIn K (.ref f23) = true)
    (a24 : PySem.W.nsIn K mainGlobals "law" = some (some (.ref f24))) (l24 : K.lookup f24 = some ⟨oc24, od24, .func (PySem.W.fnOf "law" "law" (defArgs (top 51)) (defBody (top 51)) (defScope (top 51)) .none kV24 dc24 pm24 an24 cd24 ct24), sl24⟩) (c24 : PySem.W.codeIn K cd24 "law" = true) (k24 : PySem.W.keepIn K (.ref f24) = true)
    (A0 : PySem.W.nsIn K mainGlobals "WeighError" = some (some (.ref C0))) (K0 : PySem.W.keepIn K (.ref C0) = true) (X0 : PySem.W.excIn K C0 [.type "ValueError", .type "Exception", .type "BaseException", .type "object"] "ValueError.__new__" = true) (S0 : PySem.W.subIn K (.ref C0) (.type "BaseException") = some true) (T0 : PySem.W.typeIn K (.ref C0) = some (.type "type"))
    (A1 : PySem.W.nsIn K mainGlobals "InvalidPlan" = some (some (.ref C1))) (K1 : PySem.W.keepIn K (.ref C1) = true) (X1 : PySem.W.excIn K C1 [.type "ValueError", .type "Exception", .type "BaseException", .type "object"] "ValueError.__new__" = true) (S1 : PySem.W.subIn K (.ref C1) (.type "BaseException") = some true) (T1 : PySem.W.typeIn K (.ref C1) = some (.type "type"))
    (A2 : PySem.W.nsIn K mainGlobals "InvalidList" = some (some (.ref C2))) (K2 : PySem.W.keepIn K (.ref C2) = true) (X2 : PySem.W.excIn K C2 [.type "ValueError", .type "Exception", .type "BaseException", .type "object"] "ValueError.__new__" = true) (S2 : PySem.W.subIn K (.ref C2) (.type "BaseException") = some true) (T2 : PySem.W.typeIn K (.ref C2) = some (.type "type"))
    (A3 : PySem.W.nsIn K mainGlobals "InvalidSum" = some (some (.ref C3))) (K3 : PySem.W.keepIn K (.ref C3) = true) (X3 : PySem.W.excIn K C3 [.type "ValueError", .type "Exception", .type "BaseException", .type "object"] "ValueError.__new__" = true) (S3 : PySem.W.subIn K (.ref C3) (.type "BaseException") = some true) (T3 : PySem.W.typeIn K (.ref C3) = some (.type "type"))
    (A4 : PySem.W.nsIn K mainGlobals "InvalidResults" = some (some (.ref C4))) (K4 : PySem.W.keepIn K (.ref C4) = true) (X4 : PySem.W.excIn K C4 [.type "ValueError", .type "Exception", .type "BaseException", .type "object"] "ValueError.__new__" = true) (S4 : PySem.W.subIn K (.ref C4) (.type "BaseException") = some true) (T4 : PySem.W.typeIn K (.ref C4) = some (.type "type"))
    (A5 : PySem.W.nsIn K mainGlobals "InvalidThings" = some (some (.ref C5))) (K5 : PySem.W.keepIn K (.ref C5) = true) (X5 : PySem.W.excIn K C5 [.type "ValueError", .type "Exception", .type "BaseException", .type "object"] "ValueError.__new__" = true) (S5 : PySem.W.subIn K (.ref C5) (.type "BaseException") = some true) (T5 : PySem.W.typeIn K (.ref C5) = some (.type "type"))
    (A6 : PySem.W.nsIn K mainGlobals "InvalidSort" = some (some (.ref C6))) (K6 : PySem.W.keepIn K (.ref C6) = true) (X6 : PySem.W.excIn K C6 [.type "ValueError", .type "Exception", .type "BaseException", .type "object"] "ValueError.__new__" = true) (S6 : PySem.W.subIn K (.ref C6) (.type "BaseException") = some true) (T6 : PySem.W.typeIn K (.ref C6) = some (.type "type"))
    (A7 : PySem.W.nsIn K mainGlobals "InvalidGoal" = some (some (.ref C7))) (K7 : PySem.W.keepIn K (.ref C7) = true) (X7 : PySem.W.excIn K C7 [.type "ValueError", .type "Exception", .type "BaseException", .type "object"] "ValueError.__new__" = true) (S7 : PySem.W.subIn K (.ref C7) (.type "BaseException") = some true) (T7 : PySem.W.typeIn K (.ref C7) = some (.type "type"))
    (A8 : PySem.W.nsIn K mainGlobals "InvalidNumber" = some (some (.ref C8))) (K8 : PySem.W.keepIn K (.ref C8) = true) (X8 : PySem.W.excIn K C8 [.type "ValueError", .type "Exception", .type "BaseException", .type "object"] "ValueError.__new__" = true) (S8 : PySem.W.subIn K (.ref C8) (.type "BaseException") = some true) (T8 : PySem.W.typeIn K (.ref C8) = some (.type "type"))
    (A9 : PySem.W.nsIn K mainGlobals "InvalidNames" = some (some (.ref C9))) (K9 : PySem.W.keepIn K (.ref C9) = true) (X9 : PySem.W.excIn K C9 [.type "ValueError", .type "Exception", .type "BaseException", .type "object"] "ValueError.__new__" = true) (S9 : PySem.W.subIn K (.ref C9) (.type "BaseException") = some true) (T9 : PySem.W.typeIn K (.ref C9) = some (.type "type"))
    (A10 : PySem.W.nsIn K mainGlobals "InvalidWeighing" = some (some (.ref C10))) (K10 : PySem.W.keepIn K (.ref C10) = true) (X10 : PySem.W.excIn K C10 [.type "ValueError", .type "Exception", .type "BaseException", .type "object"] "ValueError.__new__" = true) (S10 : PySem.W.subIn K (.ref C10) (.type "BaseException") = some true) (T10 : PySem.W.typeIn K (.ref C10) = some (.type "type"))
    (A11 : PySem.W.nsIn K mainGlobals "InvalidMany" = some (some (.ref C11))) (K11 : PySem.W.keepIn K (.ref C11) = true) (X11 : PySem.W.excIn K C11 [.type "ValueError", .type "Exception", .type "BaseException", .type "object"] "ValueError.__new__" = true) (S11 : PySem.W.subIn K (.ref C11) (.type "BaseException") = some true) (T11 : PySem.W.typeIn K (.ref C11) = some (.type "type"))
    (A12 : PySem.W.nsIn K mainGlobals "InvalidShares" = some (some (.ref C12))) (K12 : PySem.W.keepIn K (.ref C12) = true) (X12 : PySem.W.excIn K C12 [.type "ValueError", .type "Exception", .type "BaseException", .type "object"] "ValueError.__new__" = true) (S12 : PySem.W.subIn K (.ref C12) (.type "BaseException") = some true) (T12 : PySem.W.typeIn K (.ref C12) = some (.type "type"))
    (A13 : PySem.W.nsIn K mainGlobals "InvalidText" = some (some (.ref C13))) (K13 : PySem.W.keepIn K (.ref C13) = true) (X13 : PySem.W.excIn K C13 [.type "ValueError", .type "Exception", .type "BaseException", .type "object"] "ValueError.__new__" = true) (S13 : PySem.W.subIn K (.ref C13) (.type "BaseException") = some true) (T13 : PySem.W.typeIn K (.ref C13) = some (.type "type"))
    (A14 : PySem.W.nsIn K mainGlobals "Unequal" = some (some (.ref C14))) (K14 : PySem.W.keepIn K (.ref C14) = true) (X14 : PySem.W.excIn K C14 [.type "ValueError", .type "Exception", .type "BaseException", .type "object"] "ValueError.__new__" = true) (S14 : PySem.W.subIn K (.ref C14) (.type "BaseException") = some true) (T14 : PySem.W.typeIn K (.ref C14) = some (.type "type"))
    (A15 : PySem.W.nsIn K mainGlobals "NotTold" = some (some (.ref C15))) (K15 : PySem.W.keepIn K (.ref C15) = true) (X15 : PySem.W.excIn K C15 [.type "ValueError", .type "Exception", .type "BaseException", .type "object"] "ValueError.__new__" = true) (S15 : PySem.W.subIn K (.ref C15) (.type "BaseException") = some true) (T15 : PySem.W.typeIn K (.ref C15) = some (.type "type"))
    (A16 : PySem.W.nsIn K mainGlobals "NotSettled" = some (some (.ref C16))) (K16 : PySem.W.keepIn K (.ref C16) = true) (X16 : PySem.W.excIn K C16 [.type "ValueError", .type "Exception", .type "BaseException", .type "object"] "ValueError.__new__" = true) (S16 : PySem.W.subIn K (.ref C16) (.type "BaseException") = some true) (T16 : PySem.W.typeIn K (.ref C16) = some (.type "type"))
    (A17 : PySem.W.nsIn K mainGlobals "NotBorne" = some (some (.ref C17))) (K17 : PySem.W.keepIn K (.ref C17) = true) (X17 : PySem.W.excIn K C17 [.type "ValueError", .type "Exception", .type "BaseException", .type "object"] "ValueError.__new__" = true) (S17 : PySem.W.subIn K (.ref C17) (.type "BaseException") = some true) (T17 : PySem.W.typeIn K (.ref C17) = some (.type "type"))
    (A18 : PySem.W.nsIn K mainGlobals "LastOne" = some (some (.ref C18))) (K18 : PySem.W.keepIn K (.ref C18) = true) (X18 : PySem.W.excIn K C18 [.type "ValueError", .type "Exception", .type "BaseException", .type "object"] "ValueError.__new__" = true) (S18 : PySem.W.subIn K (.ref C18) (.type "BaseException") = some true) (T18 : PySem.W.typeIn K (.ref C18) = some (.type "type"))
    (A19 : PySem.W.nsIn K mainGlobals "TooMany" = some (some (.ref C19))) (K19 : PySem.W.keepIn K (.ref C19) = true) (X19 : PySem.W.excIn K C19 [.type "ValueError", .type "Exception", .type "BaseException", .type "object"] "ValueError.__new__" = true) (S19 : PySem.W.subIn K (.ref C19) (.type "BaseException") = some true) (T19 : PySem.W.typeIn K (.ref C19) = some (.type "type"))
    (A20 : PySem.W.nsIn K mainGlobals "NothingToUndo" = some (some (.ref C20))) (K20 : PySem.W.keepIn K (.ref C20) = true) (X20 : PySem.W.excIn K C20 [.type "ValueError", .type "Exception", .type "BaseException", .type "object"] "ValueError.__new__" = true) (S20 : PySem.W.subIn K (.ref C20) (.type "BaseException") = some true) (T20 : PySem.W.typeIn K (.ref C20) = some (.type "type"))
    (z_ValueError : PySem.W.nsIn K mainGlobals "ValueError" = some none)
    (z_abs : PySem.W.nsIn K mainGlobals "abs" = some none)
    (z_any : PySem.W.nsIn K mainGlobals "any" = some none)
    (z_bool : PySem.W.nsIn K mainGlobals "bool" = some none)
    (z_enumerate : PySem.W.nsIn K mainGlobals "enumerate" = some none)
    (z_int : PySem.W.nsIn K mainGlobals "int" = some none)
    (z_isinstance : PySem.W.nsIn K mainGlobals "isinstance" = some none)
    (z_len : PySem.W.nsIn K mainGlobals "len" = some none)
    (z_list : PySem.W.nsIn K mainGlobals "list" = some none)
    (z_max : PySem.W.nsIn K mainGlobals "max" = some none)
    (z_range : PySem.W.nsIn K mainGlobals "range" = some none)
    (z_str : PySem.W.nsIn K mainGlobals "str" = some none)
    (z_sum : PySem.W.nsIn K mainGlobals "sum" = some none)
    (z_tuple : PySem.W.nsIn K mainGlobals "tuple" = some none)
    {xo1 xo2 xo3 xo4 xo5 xo6 xo7 xo8 xo9 xo10 xo11 xo12 xo13 xo14 xo15 xo16 xo17 xo18 xo19 xo20 : Option Addr} {xs1 xs2 xs3 xs4 xs5 xs6 xs7 xs8 xs9 xs10 xs11 xs12 xs13 xs14 xs15 xs16 xs17 xs18 xs19 xs20 : Array (Option Value)} {xd0 xd1 xd2 xd3 xd4 xd5 xd6 xd7 xd8 xd9 xd10 xd11 xd12 xd13 xd14 xd15 xd16 xd17 xd18 xd19 xd20 : ClassData}
    (YL1 : K.lookup C1 = some ⟨.type "type", xo1, .cls xd1, xs1⟩) (YM1 : xd1.mro = [.ref C1, .ref C0, .type "ValueError", .type "Exception", .type "BaseException", .type "object"])
    (YG1 : PySem.W.findIn K (.ref C1) "__getattribute__" = some (some (.builtin "BaseException.__getattribute__"))) (YH1 : PySem.W.findIn K (.ref C1) "__getattr__" = some none) (YD1 : PySem.W.hasDictIn K C1 = true) (YQ1 : PySem.W.findIn K (.ref C1) "__class__" = some (some (.builtin "object.__class__")))
    (YL2 : K.lookup C2 = some ⟨.type "type", xo2, .cls xd2, xs2⟩) (YM2 : xd2.mro = [.ref C2, .ref C0, .type "ValueError", .type "Exception", .type "BaseException", .type "object"])
    (YG2 : PySem.W.findIn K (.ref C2) "__getattribute__" = some (some (.builtin "BaseException.__getattribute__"))) (YH2 : PySem.W.findIn K (.ref C2) "__getattr__" = some none) (YD2 : PySem.W.hasDictIn K C2 = true) (YQ2 : PySem.W.findIn K (.ref C2) "__class__" = some (some (.builtin "object.__class__")))
    (YL3 : K.lookup C3 = some ⟨.type "type", xo3, .cls xd3, xs3⟩) (YM3 : xd3.mro = [.ref C3, .ref C0, .type "ValueError", .type "Exception", .type "BaseException", .type "object"])
    (YG3 : PySem.W.findIn K (.ref C3) "__getattribute__" = some (some (.builtin "BaseException.__getattribute__"))) (YH3 : PySem.W.findIn K (.ref C3) "__getattr__" = some none) (YD3 : PySem.W.hasDictIn K C3 = true) (YQ3 : PySem.W.findIn K (.ref C3) "__class__" = some (some (.builtin "object.__class__")))
    (YL4 : K.lookup C4 = some ⟨.type "type", xo4, .cls xd4, xs4⟩) (YM4 : xd4.mro = [.ref C4, .ref C0, .type "ValueError", .type "Exception", .type "BaseException", .type "object"])
    (YG4 : PySem.W.findIn K (.ref C4) "__getattribute__" = some (some (.builtin "BaseException.__getattribute__"))) (YH4 : PySem.W.findIn K (.ref C4) "__getattr__" = some none) (YD4 : PySem.W.hasDictIn K C4 = true) (YQ4 : PySem.W.findIn K (.ref C4) "__class__" = some (some (.builtin "object.__class__")))
    (YL5 : K.lookup C5 = some ⟨.type "type", xo5, .cls xd5, xs5⟩) (YM5 : xd5.mro = [.ref C5, .ref C0, .type "ValueError", .type "Exception", .type "BaseException", .type "object"])
    (YG5 : PySem.W.findIn K (.ref C5) "__getattribute__" = some (some (.builtin "BaseException.__getattribute__"))) (YH5 : PySem.W.findIn K (.ref C5) "__getattr__" = some none) (YD5 : PySem.W.hasDictIn K C5 = true) (YQ5 : PySem.W.findIn K (.ref C5) "__class__" = some (some (.builtin "object.__class__")))
    (YL6 : K.lookup C6 = some ⟨.type "type", xo6, .cls xd6, xs6⟩) (YM6 : xd6.mro = [.ref C6, .ref C0, .type "ValueError", .type "Exception", .type "BaseException", .type "object"])
    (YG6 : PySem.W.findIn K (.ref C6) "__getattribute__" = some (some (.builtin "BaseException.__getattribute__"))) (YH6 : PySem.W.findIn K (.ref C6) "__getattr__" = some none) (YD6 : PySem.W.hasDictIn K C6 = true) (YQ6 : PySem.W.findIn K (.ref C6) "__class__" = some (some (.builtin "object.__class__")))
    (YL7 : K.lookup C7 = some ⟨.type "type", xo7, .cls xd7, xs7⟩) (YM7 : xd7.mro = [.ref C7, .ref C0, .type "ValueError", .type "Exception", .type "BaseException", .type "object"])
    (YG7 : PySem.W.findIn K (.ref C7) "__getattribute__" = some (some (.builtin "BaseException.__getattribute__"))) (YH7 : PySem.W.findIn K (.ref C7) "__getattr__" = some none) (YD7 : PySem.W.hasDictIn K C7 = true) (YQ7 : PySem.W.findIn K (.ref C7) "__class__" = some (some (.builtin "object.__class__")))
    (YL8 : K.lookup C8 = some ⟨.type "type", xo8, .cls xd8, xs8⟩) (YM8 : xd8.mro = [.ref C8, .ref C0, .type "ValueError", .type "Exception", .type "BaseException", .type "object"])
    (YG8 : PySem.W.findIn K (.ref C8) "__getattribute__" = some (some (.builtin "BaseException.__getattribute__"))) (YH8 : PySem.W.findIn K (.ref C8) "__getattr__" = some none) (YD8 : PySem.W.hasDictIn K C8 = true) (YQ8 : PySem.W.findIn K (.ref C8) "__class__" = some (some (.builtin "object.__class__")))
    (YL9 : K.lookup C9 = some ⟨.type "type", xo9, .cls xd9, xs9⟩) (YM9 : xd9.mro = [.ref C9, .ref C0, .type "ValueError", .type "Exception", .type "BaseException", .type "object"])
    (YG9 : PySem.W.findIn K (.ref C9) "__getattribute__" = some (some (.builtin "BaseException.__getattribute__"))) (YH9 : PySem.W.findIn K (.ref C9) "__getattr__" = some none) (YD9 : PySem.W.hasDictIn K C9 = true) (YQ9 : PySem.W.findIn K (.ref C9) "__class__" = some (some (.builtin "object.__class__")))
    (YL10 : K.lookup C10 = some ⟨.type "type", xo10, .cls xd10, xs10⟩) (YM10 : xd10.mro = [.ref C10, .ref C0, .type "ValueError", .type "Exception", .type "BaseException", .type "object"])
    (YG10 : PySem.W.findIn K (.ref C10) "__getattribute__" = some (some (.builtin "BaseException.__getattribute__"))) (YH10 : PySem.W.findIn K (.ref C10) "__getattr__" = some none) (YD10 : PySem.W.hasDictIn K C10 = true) (YQ10 : PySem.W.findIn K (.ref C10) "__class__" = some (some (.builtin "object.__class__")))
    (YL11 : K.lookup C11 = some ⟨.type "type", xo11, .cls xd11, xs11⟩) (YM11 : xd11.mro = [.ref C11, .ref C0, .type "ValueError", .type "Exception", .type "BaseException", .type "object"])
    (YG11 : PySem.W.findIn K (.ref C11) "__getattribute__" = some (some (.builtin "BaseException.__getattribute__"))) (YH11 : PySem.W.findIn K (.ref C11) "__getattr__" = some none) (YD11 : PySem.W.hasDictIn K C11 = true) (YQ11 : PySem.W.findIn K (.ref C11) "__class__" = some (some (.builtin "object.__class__")))
    (YL12 : K.lookup C12 = some ⟨.type "type", xo12, .cls xd12, xs12⟩) (YM12 : xd12.mro = [.ref C12, .ref C0, .type "ValueError", .type "Exception", .type "BaseException", .type "object"])
    (YG12 : PySem.W.findIn K (.ref C12) "__getattribute__" = some (some (.builtin "BaseException.__getattribute__"))) (YH12 : PySem.W.findIn K (.ref C12) "__getattr__" = some none) (YD12 : PySem.W.hasDictIn K C12 = true) (YQ12 : PySem.W.findIn K (.ref C12) "__class__" = some (some (.builtin "object.__class__")))
    (YL13 : K.lookup C13 = some ⟨.type "type", xo13, .cls xd13, xs13⟩) (YM13 : xd13.mro = [.ref C13, .ref C0, .type "ValueError", .type "Exception", .type "BaseException", .type "object"])
    (YG13 : PySem.W.findIn K (.ref C13) "__getattribute__" = some (some (.builtin "BaseException.__getattribute__"))) (YH13 : PySem.W.findIn K (.ref C13) "__getattr__" = some none) (YD13 : PySem.W.hasDictIn K C13 = true) (YQ13 : PySem.W.findIn K (.ref C13) "__class__" = some (some (.builtin "object.__class__")))
    (YL14 : K.lookup C14 = some ⟨.type "type", xo14, .cls xd14, xs14⟩) (YM14 : xd14.mro = [.ref C14, .ref C0, .type "ValueError", .type "Exception", .type "BaseException", .type "object"])
    (YG14 : PySem.W.findIn K (.ref C14) "__getattribute__" = some (some (.builtin "BaseException.__getattribute__"))) (YH14 : PySem.W.findIn K (.ref C14) "__getattr__" = some none) (YD14 : PySem.W.hasDictIn K C14 = true) (YQ14 : PySem.W.findIn K (.ref C14) "__class__" = some (some (.builtin "object.__class__")))
    (YL15 : K.lookup C15 = some ⟨.type "type", xo15, .cls xd15, xs15⟩) (YM15 : xd15.mro = [.ref C15, .ref C0, .type "ValueError", .type "Exception", .type "BaseException", .type "object"])
    (YG15 : PySem.W.findIn K (.ref C15) "__getattribute__" = some (some (.builtin "BaseException.__getattribute__"))) (YH15 : PySem.W.findIn K (.ref C15) "__getattr__" = some none) (YD15 : PySem.W.hasDictIn K C15 = true) (YQ15 : PySem.W.findIn K (.ref C15) "__class__" = some (some (.builtin "object.__class__")))
    (YL16 : K.lookup C16 = some ⟨.type "type", xo16, .cls xd16, xs16⟩) (YM16 : xd16.mro = [.ref C16, .ref C0, .type "ValueError", .type "Exception", .type "BaseException", .type "object"])
    (YG16 : PySem.W.findIn K (.ref C16) "__getattribute__" = some (some (.builtin "BaseException.__getattribute__"))) (YH16 : PySem.W.findIn K (.ref C16) "__getattr__" = some none) (YD16 : PySem.W.hasDictIn K C16 = true) (YQ16 : PySem.W.findIn K (.ref C16) "__class__" = some (some (.builtin "object.__class__")))
    (YL17 : K.lookup C17 = some ⟨.type "type", xo17, .cls xd17, xs17⟩) (YM17 : xd17.mro = [.ref C17, .ref C0, .type "ValueError", .type "Exception", .type "BaseException", .type "object"])
    (YG17 : PySem.W.findIn K (.ref C17) "__getattribute__" = some (some (.builtin "BaseException.__getattribute__"))) (YH17 : PySem.W.findIn K (.ref C17) "__getattr__" = some none) (YD17 : PySem.W.hasDictIn K C17 = true) (YQ17 : PySem.W.findIn K (.ref C17) "__class__" = some (some (.builtin "object.__class__")))
    (YL18 : K.lookup C18 = some ⟨.type "type", xo18, .cls xd18, xs18⟩) (YM18 : xd18.mro = [.ref C18, .ref C0, .type "ValueError", .type "Exception", .type "BaseException", .type "object"])
    (YG18 : PySem.W.findIn K (.ref C18) "__getattribute__" = some (some (.builtin "BaseException.__getattribute__"))) (YH18 : PySem.W.findIn K (.ref C18) "__getattr__" = some none) (YD18 : PySem.W.hasDictIn K C18 = true) (YQ18 : PySem.W.findIn K (.ref C18) "__class__" = some (some (.builtin "object.__class__")))
    (YL19 : K.lookup C19 = some ⟨.type "type", xo19, .cls xd19, xs19⟩) (YM19 : xd19.mro = [.ref C19, .ref C0, .type "ValueError", .type "Exception", .type "BaseException", .type "object"])
    (YG19 : PySem.W.findIn K (.ref C19) "__getattribute__" = some (some (.builtin "BaseException.__getattribute__"))) (YH19 : PySem.W.findIn K (.ref C19) "__getattr__" = some none) (YD19 : PySem.W.hasDictIn K C19 = true) (YQ19 : PySem.W.findIn K (.ref C19) "__class__" = some (some (.builtin "object.__class__")))
    (YL20 : K.lookup C20 = some ⟨.type "type", xo20, .cls xd20, xs20⟩) (YM20 : xd20.mro = [.ref C20, .ref C0, .type "ValueError", .type "Exception", .type "BaseException", .type "object"])
    (YG20 : PySem.W.findIn K (.ref C20) "__getattribute__" = some (some (.builtin "BaseException.__getattribute__"))) (YH20 : PySem.W.findIn K (.ref C20) "__getattr__" = some none) (YD20 : PySem.W.hasDictIn K C20 = true) (YQ20 : PySem.W.findIn K (.ref C20) "__class__" = some (some (.builtin "object.__class__")))
    (N0 : PySem.W.specialIn K (.builtin "object.__class__") "__get__" = some (some (.builtin "getset_descriptor.__get__"))) (N1 : PySem.W.takesIn K (.builtin "object.__class__") = some true)
    (U0 : [C0, C1, C2, C3, C4, C5, C6, C7, C8, C9, C10, C11, C12, C13, C14, C15, C16, C17, C18, C19, C20].Nodup) (I0 : PySem.W.clsIn K C0 = some xd0)
    : ∃ fd : FuncData, (∀ (s : Shared) (v : Value), BindsTo s fd ⟨[v], []⟩ [("_law_script", v)]) ∧ ∀ base : Heap, K.In base → base.Ns mainGlobals mg → FnOk l.prog w K mg base (L2.CX l.prog w) 13 fa fd ["_law_script"] (spD K (glbOf2 names vals K) 1 F_law_k51) := by
  have M : Txt K mg (glbOf2 names vals K) := {
    d__law_town := ⟨f0, _, fun_mk (st := top 43) l0 c0 k0, PySem.W.mg_of X G a0, (fun_mk (st := top 43) l0 c0 k0).binds (ps := ["_law_script"]) fun _ _ _ _ _ _ us hl => match us, hl with | [_], _ => rfl⟩
    d__law_draw := ⟨f1, _, fun_mk (st := top 44) l1 c1 k1, PySem.W.mg_of X G a1, (fun_mk (st := top 44) l1 c1 k1).binds (ps := ["_law_script", "_law_town_here", "_law_limit"]) fun _ _ _ _ _ _ us hl => match us, hl with | [_, _, _], _ => rfl⟩
    d__law_pick := ⟨f2, _, fun_mk (st := top 45) l2 c2 k2, PySem.W.mg_of X G a2, (fun_mk (st := top 45) l2 c2 k2).binds (ps := ["_law_script", "_law_town_here", "_law_choices"]) fun _ _ _ _ _ _ us hl => match us, hl with | [_, _, _], _ => rfl⟩
    d_is_between := ⟨f3, _, fun_mk (st := top 23) l3 c3 k3, PySem.W.mg_of X G a3, (fun_mk (st := top 23) l3 c3 k3).binds (ps := ["value", "low", "high"]) fun _ _ _ _ _ _ us hl => match us, hl with | [_, _, _], _ => rfl⟩
    d_check_things := ⟨f4, _, fun_mk (st := top 28) l4 c4 k4, PySem.W.mg_of X G a4, (fun_mk (st := top 28) l4 c4 k4).binds (ps := ["value"]) fun _ _ _ _ _ _ us hl => match us, hl with | [_], _ => rfl⟩
    d_check_sort := ⟨f5, _, fun_mk (st := top 29) l5 c5 k5, PySem.W.mg_of X G a5, (fun_mk (st := top 29) l5 c5 k5).binds (ps := ["value"]) fun _ _ _ _ _ _ us hl => match us, hl with | [_], _ => rfl⟩
    d_found_weighings := ⟨f6, _, fun_mk (st := top 30) l6 c6 k6, PySem.W.mg_of X G a6, (fun_mk (st := top 30) l6 c6 k6).binds (ps := ["things", "sort"]) fun _ _ _ _ _ _ us hl => match us, hl with | [_, _], _ => rfl⟩
    d_single_weighings := ⟨f7, _, fun_mk (st := top 37) l7 c7 k7, PySem.W.mg_of X G a7, (fun_mk (st := top 37) l7 c7 k7).binds (ps := ["things", "sort"]) fun _ _ _ _ _ _ us hl => match us, hl with | [_, _], _ => rfl⟩
    d_count_of := ⟨f8, _, fun_mk (st := top 38) l8 c8 k8, PySem.W.mg_of X G a8, (fun_mk (st := top 38) l8 c8 k8).binds (ps := ["choices", "many"]) fun _ _ _ _ _ _ us hl => match us, hl with | [_, _], _ => rfl⟩
    d_square_of := ⟨f9, _, fun_mk (st := top 34) l9 c9 k9, PySem.W.mg_of X G a9, (fun_mk (st := top 34) l9 c9 k9).binds (ps := ["plan"]) fun _ _ _ _ _ _ us hl => match us, hl with | [_], _ => rfl⟩
    d_determinant := ⟨f10, _, fun_mk (st := top 32) l10 c10 k10, PySem.W.mg_of X G a10, (fun_mk (st := top 32) l10 c10 k10).binds (ps := ["table"]) fun _ _ _ _ _ _ us hl => match us, hl with | [_], _ => rfl⟩
    d_divisor_of := ⟨f11, _, fun_mk (st := top 24) l11 c11 k11, PySem.W.mg_of X G a11, (fun_mk (st := top 24) l11 c11 k11).binds (ps := ["one", "other"]) fun _ _ _ _ _ _ us hl => match us, hl with | [_, _], _ => rfl⟩
    d_fraction := ⟨f12, _, fun_mk (st := top 25) l12 c12 k12, PySem.W.mg_of X G a12, (fun_mk (st := top 25) l12 c12 k12).binds (ps := ["top", "bottom"]) fun _ _ _ _ _ _ us hl => match us, hl with | [_, _], _ => rfl⟩
    d_without_cross := ⟨f13, _, fun_mk (st := top 33) l13 c13 k13, PySem.W.mg_of X G a13, (fun_mk (st := top 33) l13 c13 k13).binds (ps := ["table", "row", "column"]) fun _ _ _ _ _ _ us hl => match us, hl with | [_, _, _], _ => rfl⟩
    d_value_of := ⟨f14, _, fun_mk (st := top 36) l14 c14 k14, PySem.W.mg_of X G a14, (fun_mk (st := top 36) l14 c14 k14).binds (ps := ["plan", "goal"]) fun _ _ _ _ _ _ us hl => match us, hl with | [_, _], _ => rfl⟩
    d_is_below := ⟨f15, _, fun_mk (st := top 26) l15 c15 k15, PySem.W.mg_of X G a15, (fun_mk (st := top 26) l15 c15 k15).binds (ps := ["one", "other"]) fun _ _ _ _ _ _ us hl => match us, hl with | [_, _], _ => rfl⟩
    d_found_best := ⟨f16, _, fun_mk (st := top 39) l16 c16 k16, PySem.W.mg_of X G a16, (fun_mk (st := top 39) l16 c16 k16).binds (ps := ["things", "many", "sort", "goal"]) fun _ _ _ _ _ _ us hl => match us, hl with | [_, _, _, _], _ => rfl⟩
    d_best_plan := ⟨f17, _, fun_mk (st := top 40) l17 c17 k17, PySem.W.mg_of X G a17, (fun_mk (st := top 40) l17 c17 k17).binds (ps := ["things", "many", "sort", "goal"]) fun _ _ _ _ _ _ us hl => match us, hl with | [_, _, _, _], _ => rfl⟩
    d_best_value := ⟨f18, _, fun_mk (st := top 41) l18 c18 k18, PySem.W.mg_of X G a18, (fun_mk (st := top 41) l18 c18 k18).binds (ps := ["things", "many", "sort", "goal"]) fun _ _ _ _ _ _ us hl => match us, hl with | [_, _, _, _], _ => rfl⟩
    d__law_ratio := ⟨f19, _, fun_mk (st := top 49) l19 c19 k19, PySem.W.mg_of X G a19, (fun_mk (st := top 49) l19 c19 k19).binds (ps := ["_law_top", "_law_bottom"]) fun _ _ _ _ _ _ us hl => match us, hl with | [_, _], _ => rfl⟩
    d__law_call := ⟨f20, _, fun_mk (st := top 50) l20 c20 k20, PySem.W.mg_of X G a20, (fun_mk (st := top 50) l20 c20 k20).binds (ps := ["_law_how", "_law_arguments"]) fun _ _ _ _ _ _ us hl => match us, hl with | [_, _], _ => rfl⟩
    d__law_name := ⟨f21, _, fun_mk (st := top 47) l21 c21 k21, PySem.W.mg_of X G a21, (fun_mk (st := top 47) l21 c21 k21).binds (ps := ["_law_caught"]) fun _ _ _ _ _ _ us hl => match us, hl with | [_], _ => rfl⟩
    d__law_outcome := ⟨f22, _, fun_mk (st := top 46) l22 c22 k22, PySem.W.mg_of X G a22, (fun_mk (st := top 46) l22 c22 k22).binds (ps := ["_law_how", "_law_arguments"]) fun _ _ _ _ _ _ us hl => match us, hl with | [_, _], _ => rfl⟩
    d__law_raises := ⟨f23, _, fun_mk (st := top 48) l23 c23 k23, PySem.W.mg_of X G a23, (fun_mk (st := top 48) l23 c23 k23).binds (ps := ["_law_name_here"]) fun _ _ _ _ _ _ us hl => match us, hl with | [_], _ => rfl⟩
    d_law := ⟨f24, _, fun_mk (st := top 51) l24 c24 k24, PySem.W.mg_of X G a24, (fun_mk (st := top 51) l24 c24 k24).binds (ps := ["_law_script"]) fun _ _ _ _ _ _ us hl => match us, hl with | [_], _ => rfl⟩
    z_ValueError := PySem.W.mg_none_of X G z_ValueError
    z_abs := PySem.W.mg_none_of X G z_abs
    z_any := PySem.W.mg_none_of X G z_any
    z_bool := PySem.W.mg_none_of X G z_bool
    z_enumerate := PySem.W.mg_none_of X G z_enumerate
    z_int := PySem.W.mg_none_of X G z_int
    z_isinstance := PySem.W.mg_none_of X G z_isinstance
    z_len := PySem.W.mg_none_of X G z_len
    z_list := PySem.W.mg_none_of X G z_list
    z_max := PySem.W.mg_none_of X G z_max
    z_range := PySem.W.mg_none_of X G z_range
    z_str := PySem.W.mg_none_of X G z_str
    z_sum := PySem.W.mg_none_of X G z_sum
    z_tuple := PySem.W.mg_none_of X G z_tuple
    e_WeighError := ec_mk2 (names := names) X G rfl (by decide +kernel) A0 K0 X0 S0 T0
    e_InvalidPlan := ec_mk2 (names := names) X G rfl (by decide +kernel) A1 K1 X1 S1 T1
    e_InvalidList := ec_mk2 (names := names) X G rfl (by decide +kernel) A2 K2 X2 S2 T2
    e_InvalidSum := ec_mk2 (names := names) X G rfl (by decide +kernel) A3 K3 X3 S3 T3
    e_InvalidResults := ec_mk2 (names := names) X G rfl (by decide +kernel) A4 K4 X4 S4 T4
    e_InvalidThings := ec_mk2 (names := names) X G rfl (by decide +kernel) A5 K5 X5 S5 T5
    e_InvalidSort := ec_mk2 (names := names) X G rfl (by decide +kernel) A6 K6 X6 S6 T6
    e_InvalidGoal := ec_mk2 (names := names) X G rfl (by decide +kernel) A7 K7 X7 S7 T7
    e_InvalidNumber := ec_mk2 (names := names) X G rfl (by decide +kernel) A8 K8 X8 S8 T8
    e_InvalidNames := ec_mk2 (names := names) X G rfl (by decide +kernel) A9 K9 X9 S9 T9
    e_InvalidWeighing := ec_mk2 (names := names) X G rfl (by decide +kernel) A10 K10 X10 S10 T10
    e_InvalidMany := ec_mk2 (names := names) X G rfl (by decide +kernel) A11 K11 X11 S11 T11
    e_InvalidShares := ec_mk2 (names := names) X G rfl (by decide +kernel) A12 K12 X12 S12 T12
    e_InvalidText := ec_mk2 (names := names) X G rfl (by decide +kernel) A13 K13 X13 S13 T13
    e_Unequal := ec_mk2 (names := names) X G rfl (by decide +kernel) A14 K14 X14 S14 T14
    e_NotTold := ec_mk2 (names := names) X G rfl (by decide +kernel) A15 K15 X15 S15 T15
    e_NotSettled := ec_mk2 (names := names) X G rfl (by decide +kernel) A16 K16 X16 S16 T16
    e_NotBorne := ec_mk2 (names := names) X G rfl (by decide +kernel) A17 K17 X17 S17 T17
    e_LastOne := ec_mk2 (names := names) X G rfl (by decide +kernel) A18 K18 X18 S18 T18
    e_TooMany := ec_mk2 (names := names) X G rfl (by decide +kernel) A19 K19 X19 S19 T19
    e_NothingToUndo := ec_mk2 (names := names) X G rfl (by decide +kernel) A20 K20 X20 S20 T20
    g_best_plan := gv_mk (vals := vals) X G rfl (by decide +kernel) a17
    g_best_value := gv_mk (vals := vals) X G rfl (by decide +kernel) a18
    x_all := excAll_mk (names := names) (xs := ["InvalidPlan", "InvalidList", "InvalidSum", "InvalidResults", "InvalidThings", "InvalidSort", "InvalidGoal", "InvalidNumber", "InvalidNames", "InvalidWeighing", "InvalidMany", "InvalidShares", "InvalidText", "Unequal", "NotTold", "NotSettled", "NotBorne", "LastOne", "TooMany", "NothingToUndo"]) X G (fun _ => rfl) rfl rfl (by decide +kernel) U0 A0 S0 (by rw [I0]; rfl) T0 (.cons A1 ⟨⟨YG1, YH1, S1, YD1, YQ1, N0, N1, (ClsF.mroIn ⟨_, _, _, YL1, YM1⟩ _).trans rfl⟩, ⟨_, _, _, YL1, YM1⟩⟩ (.cons A2 ⟨⟨YG2, YH2, S2, YD2, YQ2, N0, N1, (ClsF.mroIn ⟨_, _, _, YL2, YM2⟩ _).trans rfl⟩, ⟨_, _, _, YL2, YM2⟩⟩ (.cons A3 ⟨⟨YG3, YH3, S3, YD3, YQ3, N0, N1, (ClsF.mroIn ⟨_, _, _, YL3, YM3⟩ _).trans rfl⟩, ⟨_, _, _, YL3, YM3⟩⟩ (.cons A4 ⟨⟨YG4, YH4, S4, YD4, YQ4, N0, N1, (ClsF.mroIn ⟨_, _, _, YL4, YM4⟩ _).trans rfl⟩, ⟨_, _, _, YL4, YM4⟩⟩ (.cons A5 ⟨⟨YG5, YH5, S5, YD5, YQ5, N0, N1, (ClsF.mroIn ⟨_, _, _, YL5, YM5⟩ _).trans rfl⟩, ⟨_, _, _, YL5, YM5⟩⟩ (.cons A6 ⟨⟨YG6, YH6, S6, YD6, YQ6, N0, N1, (ClsF.mroIn ⟨_, _, _, YL6, YM6⟩ _).trans rfl⟩, ⟨_, _, _, YL6, YM6⟩⟩ (.cons A7 ⟨⟨YG7, YH7, S7, YD7, YQ7, N0, N1, (ClsF.mroIn ⟨_, _, _, YL7, YM7⟩ _).trans rfl⟩, ⟨_, _, _, YL7, YM7⟩⟩ (.cons A8 ⟨⟨YG8, YH8, S8, YD8, YQ8, N0, N1, (ClsF.mroIn ⟨_, _, _, YL8, YM8⟩ _).trans rfl⟩, ⟨_, _, _, YL8, YM8⟩⟩ (.cons A9 ⟨⟨YG9, YH9, S9, YD9, YQ9, N0, N1, (ClsF.mroIn ⟨_, _, _, YL9, YM9⟩ _).trans rfl⟩, ⟨_, _, _, YL9, YM9⟩⟩ (.cons A10 ⟨⟨YG10, YH10, S10, YD10, YQ10, N0, N1, (ClsF.mroIn ⟨_, _, _, YL10, YM10⟩ _).trans rfl⟩, ⟨_, _, _, YL10, YM10⟩⟩ (.cons A11 ⟨⟨YG11, YH11, S11, YD11, YQ11, N0, N1, (ClsF.mroIn ⟨_, _, _, YL11, YM11⟩ _).trans rfl⟩, ⟨_, _, _, YL11, YM11⟩⟩ (.cons A12 ⟨⟨YG12, YH12, S12, YD12, YQ12, N0, N1, (ClsF.mroIn ⟨_, _, _, YL12, YM12⟩ _).trans rfl⟩, ⟨_, _, _, YL12, YM12⟩⟩ (.cons A13 ⟨⟨YG13, YH13, S13, YD13, YQ13, N0, N1, (ClsF.mroIn ⟨_, _, _, YL13, YM13⟩ _).trans rfl⟩, ⟨_, _, _, YL13, YM13⟩⟩ (.cons A14 ⟨⟨YG14, YH14, S14, YD14, YQ14, N0, N1, (ClsF.mroIn ⟨_, _, _, YL14, YM14⟩ _).trans rfl⟩, ⟨_, _, _, YL14, YM14⟩⟩ (.cons A15 ⟨⟨YG15, YH15, S15, YD15, YQ15, N0, N1, (ClsF.mroIn ⟨_, _, _, YL15, YM15⟩ _).trans rfl⟩, ⟨_, _, _, YL15, YM15⟩⟩ (.cons A16 ⟨⟨YG16, YH16, S16, YD16, YQ16, N0, N1, (ClsF.mroIn ⟨_, _, _, YL16, YM16⟩ _).trans rfl⟩, ⟨_, _, _, YL16, YM16⟩⟩ (.cons A17 ⟨⟨YG17, YH17, S17, YD17, YQ17, N0, N1, (ClsF.mroIn ⟨_, _, _, YL17, YM17⟩ _).trans rfl⟩, ⟨_, _, _, YL17, YM17⟩⟩ (.cons A18 ⟨⟨YG18, YH18, S18, YD18, YQ18, N0, N1, (ClsF.mroIn ⟨_, _, _, YL18, YM18⟩ _).trans rfl⟩, ⟨_, _, _, YL18, YM18⟩⟩ (.cons A19 ⟨⟨YG19, YH19, S19, YD19, YQ19, N0, N1, (ClsF.mroIn ⟨_, _, _, YL19, YM19⟩ _).trans rfl⟩, ⟨_, _, _, YL19, YM19⟩⟩ (.cons A20 ⟨⟨YG20, YH20, S20, YD20, YQ20, N0, N1, (ClsF.mroIn ⟨_, _, _, YL20, YM20⟩ _).trans rfl⟩, ⟨_, _, _, YL20, YM20⟩⟩ (.nil))))))))))))))))))))) }
  refine ⟨PySem.W.fnOf "law" "law" (defArgs (top 51)) (defBody (top 51)) (defScope (top 51)) .none kV24 dc24 pm24 an24 cd24 ct24, fun s v => .of_eq rfl, fun base _ _ => ?_⟩
  have e := hfa.symm.trans (PySem.W.mg_of X G a24)
  cases e
  exact f_law M (fun_mk (st := top 51) l24 c24 k24)
end DL.k51
open PySem PySem.W PyProof.Rows
set_option maxHeartbeats 0 in
theorem PySem.Challenge.cw_weighplans_k51_best_plans_by_hand_holds : PySem.Challenge.rw_weighplans_k51_best_plans_by_hand.Holds := by
  w_on; o_law; k_head; (case hw => w_witness2)
  k_fill
  refine DL.walk_law2 (l := PySem.Challenge.rw_weighplans_k51_best_plans_by_hand) (n := 63) (k := 13) (x := "_law_script") (GO := fun K => DL.glbOf2 DL.k51.names DL.k51.vals K) (F := DL.F_law_k51) rfl (by decide) rfl ⟨rfl, by decide, by decide⟩ (fun w h Y => PySem.W.kIn_of Y) ?F DL.k51.law_true
  case F =>
    intro w mg fa h KX G hmg
    refine' DL.k51.all_mk KX G hmg ?a0 ?l0 ?c0 ?k0 ?a1 ?l1 ?c1 ?k1 ?a2 ?l2 ?c2 ?k2 ?a3 ?l3 ?c3 ?k3 ?a4 ?l4 ?c4 ?k4 ?a5 ?l5 ?c5 ?k5 ?a6 ?l6 ?c6 ?k6 ?a7 ?l7 ?c7 ?k7 ?a8 ?l8 ?c8 ?k8 ?a9 ?l9 ?c9 ?k9 ?a10 ?l10 ?c10 ?k10 ?a11 ?l11 ?c11 ?k11 ?a12 ?l12 ?c12 ?k12 ?a13 ?l13 ?c13 ?k13 ?a14 ?l14 ?c14 ?k14 ?a15 ?l15 ?c15 ?k15 ?a16 ?l16 ?c16 ?k16 ?a17 ?l17 ?c17 ?k17 ?a18 ?l18 ?c18 ?k18 ?a19 ?l19 ?c19 ?k19 ?a20 ?l20 ?c20 ?k20 ?a21 ?l21 ?c21 ?k21 ?a22 ?l22 ?c22 ?k22 ?a23 ?l23 ?c23 ?k23 ?a24 ?l24 ?c24 ?k24 ?A0 ?K0 ?X0 ?S0 ?T0 ?A1 ?K1 ?X1 ?S1 ?T1 ?A2 ?K2 ?X2 ?S2 ?T2 ?A3 ?K3 ?X3 ?S3 ?T3 ?A4 ?K4 ?X4 ?S4 ?T4 ?A5 ?K5 ?X5 ?S5 ?T5 ?A6 ?K6 ?X6 ?S6 ?T6 ?A7 ?K7 ?X7 ?S7 ?T7 ?A8 ?K8 ?X8 ?S8 ?T8 ?A9 ?K9 ?X9 ?S9 ?T9 ?A10 ?K10 ?X10 ?S10 ?T10 ?A11 ?K11 ?X11 ?S11 ?T11 ?A12 ?K12 ?X12 ?S12 ?T12 ?A13 ?K13 ?X13 ?S13 ?T13 ?A14 ?K14 ?X14 ?S14 ?T14 ?A15 ?K15 ?X15 ?S15 ?T15 ?A16 ?K16 ?X16 ?S16 ?T16 ?A17 ?K17 ?X17 ?S17 ?T17 ?A18 ?K18 ?X18 ?S18 ?T18 ?A19 ?K19 ?X19 ?S19 ?T19 ?A20 ?K20 ?X20 ?S20 ?T20 ?z_ValueError ?z_abs ?z_any ?z_bool ?z_enumerate ?z_int ?z_isinstance ?z_len ?z_list ?z_max ?z_range ?z_str ?z_sum ?z_tuple ?YL1 ?YM1 ?YG1 ?YH1 ?YD1 ?YQ1 ?YL2 ?YM2 ?YG2 ?YH2 ?YD2 ?YQ2 ?YL3 ?YM3 ?YG3 ?YH3 ?YD3 ?YQ3 ?YL4 ?YM4 ?YG4 ?YH4 ?YD4 ?YQ4 ?YL5 ?YM5 ?YG5 ?YH5 ?YD5 ?YQ5 ?YL6 ?YM6 ?YG6 ?YH6 ?YD6 ?YQ6 ?YL7 ?YM7 ?YG7 ?YH7 ?YD7 ?YQ7 ?YL8 ?YM8 ?YG8 ?YH8 ?YD8 ?YQ8 ?YL9 ?YM9 ?YG9 ?YH9 ?YD9 ?YQ9 ?YL10 ?YM10 ?YG10 ?YH10 ?YD10 ?YQ10 ?YL11 ?YM11 ?YG11 ?YH11 ?YD11 ?YQ11 ?YL12 ?YM12 ?YG12 ?YH12 ?YD12 ?YQ12 ?YL13 ?YM13 ?YG13 ?YH13 ?YD13 ?YQ13 ?YL14 ?YM14 ?YG14 ?YH14 ?YD14 ?YQ14 ?YL15 ?YM15 ?YG15 ?YH15 ?YD15 ?YQ15 ?YL16 ?YM16 ?YG16 ?YH16 ?YD16 ?YQ16 ?YL17 ?YM17 ?YG17 ?YH17 ?YD17 ?YQ17 ?YL18 ?YM18 ?YG18 ?YH18 ?YD18 ?YQ18 ?YL19 ?YM19 ?YG19 ?YH19 ?YD19 ?YQ19 ?YL20 ?YM20 ?YG20 ?YH20 ?YD20 ?YQ20 ?N0 ?N1 ?U0 ?I0
    (case a0 => k_is); (case l0 => k_is); (case c0 => k_is); (case k0 => k_is); (case a1 => k_is); (case l1 => k_is); (case c1 => k_is); (case k1 => k_is); (case a2 => k_is); (case l2 => k_is); (case c2 => k_is); (case k2 => k_is); (case a3 => k_is); (case l3 => k_is); (case c3 => k_is); (case k3 => k_is); (case a4 => k_is); (case l4 => k_is); (case c4 => k_is); (case k4 => k_is); (case a5 => k_is); (case l5 => k_is); (case c5 => k_is); (case k5 => k_is); (case a6 => k_is); (case l6 => k_is); (case c6 => k_is); (case k6 => k_is); (case a7 => k_is); (case l7 => k_is); (case c7 => k_is); (case k7 => k_is); (case a8 => k_is); (case l8 => k_is); (case c8 => k_is); (case k8 => k_is); (case a9 => k_is); (case l9 => k_is); (case c9 => k_is); (case k9 => k_is); (case a10 => k_is); (case l10 => k_is); (case c10 => k_is); (case k10 => k_is); (case a11 => k_is); (case l11 => k_is); (case c11 => k_is); (case k11 => k_is); (case a12 => k_is); (case l12 => k_is); (case c12 => k_is); (case k12 => k_is); (case a13 => k_is); (case l13 => k_is); (case c13 => k_is); (case k13 => k_is); (case a14 => k_is); (case l14 => k_is); (case c14 => k_is); (case k14 => k_is); (case a15 => k_is); (case l15 => k_is); (case c15 => k_is); (case k15 => k_is); (case a16 => k_is); (case l16 => k_is); (case c16 => k_is); (case k16 => k_is); (case a17 => k_is); (case l17 => k_is); (case c17 => k_is); (case k17 => k_is); (case a18 => k_is); (case l18 => k_is); (case c18 => k_is); (case k18 => k_is); (case a19 => k_is); (case l19 => k_is); (case c19 => k_is); (case k19 => k_is); (case a20 => k_is); (case l20 => k_is); (case c20 => k_is); (case k20 => k_is); (case a21 => k_is); (case l21 => k_is); (case c21 => k_is); (case k21 => k_is); (case a22 => k_is); (case l22 => k_is); (case c22 => k_is); (case k22 => k_is); (case a23 => k_is); (case l23 => k_is); (case c23 => k_is); (case k23 => k_is); (case a24 => k_is); (case l24 => k_is); (case c24 => k_is); (case k24 => k_is); (case A0 => k_is); (case K0 => k_is); (case X0 => k_exc); (case S0 => k_is); (case T0 => k_is); (case A1 => k_is); (case K1 => k_is); (case X1 => k_exc); (case S1 => k_is); (case T1 => k_is); (case A2 => k_is); (case K2 => k_is); (case X2 => k_exc); (case S2 => k_is); (case T2 => k_is); (case A3 => k_is); (case K3 => k_is); (case X3 => k_exc); (case S3 => k_is); (case T3 => k_is); (case A4 => k_is); (case K4 => k_is); (case X4 => k_exc); (case S4 => k_is); (case T4 => k_is); (case A5 => k_is); (case K5 => k_is); (case X5 => k_exc); (case S5 => k_is); (case T5 => k_is); (case A6 => k_is); (case K6 => k_is); (case X6 => k_exc); (case S6 => k_is); (case T6 => k_is); (case A7 => k_is); (case K7 => k_is); (case X7 => k_exc); (case S7 => k_is); (case T7 => k_is); (case A8 => k_is); (case K8 => k_is); (case X8 => k_exc); (case S8 => k_is); (case T8 => k_is); (case A9 => k_is); (case K9 => k_is); (case X9 => k_exc); (case S9 => k_is); (case T9 => k_is); (case A10 => k_is); (case K10 => k_is); (case X10 => k_exc); (case S10 => k_is); (case T10 => k_is); (case A11 => k_is); (case K11 => k_is); (case X11 => k_exc); (case S11 => k_is); (case T11 => k_is); (case A12 => k_is); (case K12 => k_is); (case X12 => k_exc); (case S12 => k_is); (case T12 => k_is); (case A13 => k_is); (case K13 => k_is); (case X13 => k_exc); (case S13 => k_is); (case T13 => k_is); (case A14 => k_is); (case K14 => k_is); (case X14 => k_exc); (case S14 => k_is); (case T14 => k_is); (case A15 => k_is); (case K15 => k_is); (case X15 => k_exc); (case S15 => k_is); (case T15 => k_is); (case A16 => k_is); (case K16 => k_is); (case X16 => k_exc); (case S16 => k_is); (case T16 => k_is); (case A17 => k_is); (case K17 => k_is); (case X17 => k_exc); (case S17 => k_is); (case T17 => k_is); (case A18 => k_is); (case K18 => k_is); (case X18 => k_exc); (case S18 => k_is); (case T18 => k_is); (case A19 => k_is); (case K19 => k_is); (case X19 => k_exc); (case S19 => k_is); (case T19 => k_is); (case A20 => k_is); (case K20 => k_is); (case X20 => k_exc); (case S20 => k_is); (case T20 => k_is); (case z_ValueError => k_is); (case z_abs => k_is); (case z_any => k_is); (case z_bool => k_is); (case z_enumerate => k_is); (case z_int => k_is); (case z_isinstance => k_is); (case z_len => k_is); (case z_list => k_is); (case z_max => k_is); (case z_range => k_is); (case z_str => k_is); (case z_sum => k_is); (case z_tuple => k_is); (case YL1 => k_is); (case YM1 => rfl); (case YG1 => k_is); (case YH1 => k_is); (case YD1 => k_is); (case YQ1 => k_is); (case YL2 => k_is); (case YM2 => rfl); (case YG2 => k_is); (case YH2 => k_is); (case YD2 => k_is); (case YQ2 => k_is); (case YL3 => k_is); (case YM3 => rfl); (case YG3 => k_is); (case YH3 => k_is); (case YD3 => k_is); (case YQ3 => k_is); (case YL4 => k_is); (case YM4 => rfl); (case YG4 => k_is); (case YH4 => k_is); (case YD4 => k_is); (case YQ4 => k_is); (case YL5 => k_is); (case YM5 => rfl); (case YG5 => k_is); (case YH5 => k_is); (case YD5 => k_is); (case YQ5 => k_is); (case YL6 => k_is); (case YM6 => rfl); (case YG6 => k_is); (case YH6 => k_is); (case YD6 => k_is); (case YQ6 => k_is); (case YL7 => k_is); (case YM7 => rfl); (case YG7 => k_is); (case YH7 => k_is); (case YD7 => k_is); (case YQ7 => k_is); (case YL8 => k_is); (case YM8 => rfl); (case YG8 => k_is); (case YH8 => k_is); (case YD8 => k_is); (case YQ8 => k_is); (case YL9 => k_is); (case YM9 => rfl); (case YG9 => k_is); (case YH9 => k_is); (case YD9 => k_is); (case YQ9 => k_is); (case YL10 => k_is); (case YM10 => rfl); (case YG10 => k_is); (case YH10 => k_is); (case YD10 => k_is); (case YQ10 => k_is); (case YL11 => k_is); (case YM11 => rfl); (case YG11 => k_is); (case YH11 => k_is); (case YD11 => k_is); (case YQ11 => k_is); (case YL12 => k_is); (case YM12 => rfl); (case YG12 => k_is); (case YH12 => k_is); (case YD12 => k_is); (case YQ12 => k_is); (case YL13 => k_is); (case YM13 => rfl); (case YG13 => k_is); (case YH13 => k_is); (case YD13 => k_is); (case YQ13 => k_is); (case YL14 => k_is); (case YM14 => rfl); (case YG14 => k_is); (case YH14 => k_is); (case YD14 => k_is); (case YQ14 => k_is); (case YL15 => k_is); (case YM15 => rfl); (case YG15 => k_is); (case YH15 => k_is); (case YD15 => k_is); (case YQ15 => k_is); (case YL16 => k_is); (case YM16 => rfl); (case YG16 => k_is); (case YH16 => k_is); (case YD16 => k_is); (case YQ16 => k_is); (case YL17 => k_is); (case YM17 => rfl); (case YG17 => k_is); (case YH17 => k_is); (case YD17 => k_is); (case YQ17 => k_is); (case YL18 => k_is); (case YM18 => rfl); (case YG18 => k_is); (case YH18 => k_is); (case YD18 => k_is); (case YQ18 => k_is); (case YL19 => k_is); (case YM19 => rfl); (case YG19 => k_is); (case YH19 => k_is); (case YD19 => k_is); (case YQ19 => k_is); (case YL20 => k_is); (case YM20 => rfl); (case YG20 => k_is); (case YH20 => k_is); (case YD20 => k_is); (case YQ20 => k_is); (case N0 => k_is); (case N1 => k_is); (case U0 => decide); (case I0 => k_is)
