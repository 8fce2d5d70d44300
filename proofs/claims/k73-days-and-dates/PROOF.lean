import PyProof.Rows.All
import HandS.ForMost
import HandS.Exc
import HandS.TryOnly
import HandS.ExcOwn
import HandS.Lambda
import HandS.Walk
import HandS.Zip
import HandS.TupAny
import HandS.IsInst
import HandS.Wide
import HandS.ExcInit
import HandS.HotCalls
import HandS.ExcIs
import HandS.WordsExc
import HandS.Defaults
import HandS.HeadHook4
import HandS.HeadWalk
import HandS.Head2
import PySem.Challenge.RW_hourwright_k73_days_and_dates
section
/-! Py: a small deep interpreter over plain data. Core Lean alone. Names of fields, classes, functions are numbers. -/
namespace Py

/-- plain (frozen) data -/
inductive D where
  | non | bl (b : Bool) | int (i : Int) | str (s : List Nat)
  | tup (ds : List D) | lst (ds : List D) | dct (ks vs : List D)
  | ins (c : Nat) (ds : List D)

/-- what stands in a slot: nothing, frozen data, or an own list, dict, instance that may still be changed -/
inductive O where
  | un | v (d : D) | fl (ds : List D) | fd (ks vs : List D) | fi (c : Nat) (fs : List (Nat × D))

abbrev Env := List O

/-- built-in classes that isinstance is asked for; own classes by number -/
inductive Ty where
  | int | bool | str | tuple | list | dict | own (c : Nat)
  deriving DecidableEq

/-- strict operations: operands from the left, then the operation -/
inductive Op where
  | add | sub | mul | fdiv | mod | pow | neg
  | eq | ne | lt | le | gt | ge | isin | notin | isN | notN
  | idx | rev
  | len | int | abs | str | tuple | list | sum | all | any | sorted | min | max | min2 | max2
  | isi (ts : List Ty)
  | count | index | join | repr

mutual
inductive E where
  | non | bl (b : Bool) | int (i : Int) | str (s : List Nat)
  | var (i : Nat) | bor (i : Nat) | glb (g : Nat)
  | op (o : Op) (es : Es)
  | and (es : Es) | or (es : Es) | not (a : E) | ite (c a b : E)
  | ch (o1 o2 : Op) (a b c : E)
  | sl (a lo hi : E)
  | att (a : E) (f : Nat)
  | tup (es : Es) | lst (es : Es) | dnew
  | call (f : Nat) (es : Es)
  | mk (c : Nat) (es : Es)
  | lc (tg : Tg) (own : List Nat) (it : It) (cs : Es) (e : E)
  | word (f : Nat) (e : E)
inductive Es where
  | nil | cons (e : E) (es : Es)
inductive It where
  | seq (e : E) | range (es : Es) | enum (e : E) | zip (a b : E)
inductive Tg where
  | name (i : Nat) | tup (ts : Tgs)
inductive Tgs where
  | nil | cons (t : Tg) (ts : Tgs)
end

mutual
inductive S where
  | asg (i : Nat) (e : E)
  | asgO (i : Nat) (e : E)
  | unp (t : Tg) (e : E)
  | set (i : Nat) (k e : E)
  | app (i : Nat) (e : E)
  | stf (i : Nat) (f : Nat) (e : E)
  | ex (e : E)
  | ret (e : E) | retO (e : E) | retM (i : Nat) | retN
  | ite (c : E) (a b : Ss)
  | for (t : Tg) (it : It) (b : Ss)
  | whl (n : Nat) (c : E) (b : Ss)
  | aug (i : Nat) (o : Op) (e : E)
  | rse (c : Nat) (es : Es)
  | pass | brk | cont
inductive Ss where
  | nil | cons (s : S) (ss : Ss)
end

inductive Res (α : Type) where
  | ok (a : α) (env : Env) | exc (c : Nat) (ds : List D) (env : Env) | stuck
inductive CRes where
  | ret (o : O) (fin : List O) | exc (c : Nat) (ds : List D) (fin : List O) | stuck
inductive Fl where
  | nxt | ret (o : O) | brk | cont

def Res.bind {α β : Type} : Res α → (α → Env → Res β) → Res β
  | .ok a env, f => f a env
  | .exc c ds env, _ => .exc c ds env
  | .stuck, _ => .stuck

/-- by a truth value -/
def bcase {α : Type} (d : D) (x y : Res α) : Res α := match d with
  | .bl b => if b = true then x else y
  | _ => .stuck
@[simp] def getS : Env → Nat → O
  | [], _ => .un
  | a :: _, 0 => a
  | _ :: l, n + 1 => getS l n
@[simp] def setS : Env → Nat → O → Env
  | [], _, _ => []
  | _ :: l, 0, o => o :: l
  | a :: l, n + 1, o => a :: setS l n o

/-- the longest a list or a text may be -/
abbrev line : Nat := 16777216

/-- what an own thing reads as when it is frozen -/
def frz : O → Option D
  | .un => none
  | .v d => some d
  | .fl ds => some (.lst ds)
  | .fd ks vs => some (.dct ks vs)
  | .fi _ _ => none

def lift (env : Env) : Option D → Res D
  | some d => .ok d env
  | none => .stuck

/-! ### the operations on data -/
def isTy (t : Ty) : D → Bool
  | .non => false
  | .bl _ => t = .bool || t = .int
  | .int _ => t = .int
  | .str _ => t = .str
  | .tup _ => t = .tuple
  | .lst _ => t = .list
  | .dct _ _ => t = .dict
  | .ins c _ => t = .own c

mutual
/-- == of plain data (no dicts but against other kinds, no instances) -/
def eqv : D → D → Bool
  | .non, .non => true
  | .bl a, .bl b => a == b
  | .int a, .int b => a == b
  | .bl a, .int b => (if a then 1 else 0) == b
  | .int a, .bl b => a == (if b then 1 else 0)
  | .str a, .str b => a == b
  | .tup a, .tup b => eqvs a b
  | .lst a, .lst b => eqvs a b
  | _, _ => false
def eqvs : List D → List D → Bool
  | [], [] => true
  | a :: as, b :: bs => eqv a b && eqvs as bs
  | _, _ => false
end
mutual
/-- no dict, no instance within -/
def plain : D → Bool
  | .str s => s.all (· < 0x110000)
  | .tup ds => plains ds
  | .lst ds => plains ds
  | .dct _ _ => false
  | .ins _ _ => false
  | _ => true
def plains : List D → Bool
  | [] => true
  | d :: ds => plain d && plains ds
end
mutual
def depth : D → Nat
  | .tup ds => depths ds + 1
  | .lst ds => depths ds + 1
  | _ => 0
def depths : List D → Nat
  | [] => 0
  | d :: ds => Nat.max (depth d) (depths ds)
end

def intOf : D → Option Int
  | .int i => some i
  | _ => none
def asInts : List D → Option (List Int)
  | [] => some []
  | .int i :: ds => (asInts ds).map (i :: ·)
  | _ => none
def asBools : List D → Option (List Bool)
  | [] => some []
  | .bl b :: ds => (asBools ds).map (b :: ·)
  | _ => none

/-- the place that an index of any sign means -/
def ixD (n : Nat) (i : Int) : Option Nat := if 0 ≤ i then (if i < n then some i.toNat else none) else if -(n : Int) ≤ i then some (i + n).toNat else none
def atD {α : Type} (xs : List α) (i : Int) : Option α := (ixD xs.length i).bind fun j => xs[j]?
/-- a slice's bound as a place among n (d where it is left out) -/
def sixD (n d : Nat) : Option Int → Nat
  | none => d
  | some v => if v < 0 then (v + (n : Int)).toNat else Nat.min v.toNat n
def cut {α : Type} (xs : List α) (lo hi : Option Int) : List α := (xs.drop (sixD xs.length 0 lo)).take (sixD xs.length xs.length hi - sixD xs.length 0 lo)
def digits (i : Int) : List Nat := (toString i).toList.map Char.toNat
def mulOk (i j : Int) : Bool := (decide (-(2 ^ 64) < i) && decide (i < 2 ^ 64)) || (decide (-(2 ^ 64) < j) && decide (j < 2 ^ 64))
def sAdd : List D → Option D
  | [.int i, .int j] => some (.int (i + j))
  | [.str a, .str b] => if a.length + b.length ≤ line then some (.str (a ++ b)) else none
  | [.lst a, .lst b] => if a.length + b.length ≤ line then some (.lst (a ++ b)) else none
  | [.tup a, .tup b] => if a.length + b.length ≤ line then some (.tup (a ++ b)) else none
  | _ => none
def sInt2 (c : Int → Int → Bool) (f : Int → Int → D) : List D → Option D
  | [.int i, .int j] => if c i j then some (f i j) else none
  | _ => none
def eqOk (a b : D) : Bool := plain a && plain b && decide (depth a ≤ 64) && decide (depth b ≤ 64)
def sEq (n : Bool) : List D → Option D
  | [a, b] => if eqOk a b then some (.bl (if n then !eqv a b else eqv a b)) else none
  | _ => none
def isNon : D → Bool
  | .non => true
  | _ => false
def sIsN (n : Bool) : List D → Option D
  | [d, .non] => some (.bl (if n then !isNon d else isNon d))
  | _ => none
def sIdx : List D → Option D
  | [.lst ds, .int i] => atD ds i
  | [.tup ds, .int i] => atD ds i
  | [.str s, .int i] => if s.length ≤ line then (atD s i).map fun c => .str [c] else none
  | _ => none
def sCut (lo hi : Option Int) : D → Option D
  | .lst ds => some (.lst (cut ds lo hi))
  | .tup ds => some (.tup (cut ds lo hi))
  | .str s => if s.length ≤ line then some (.str (cut s lo hi)) else none
  | _ => none
def sLen : List D → Option D
  | [.lst ds] => some (.int ds.length)
  | [.tup ds] => some (.int ds.length)
  | [.str s] => if s.length ≤ line then some (.int s.length) else none
  | _ => none
def sInt : List D → Option D
  | [.int i] => some (.int i)
  | [.bl b] => some (.int (if b then 1 else 0))
  | _ => none
def sInt1 (c : Int → Bool) (f : Int → D) : List D → Option D
  | [.int i] => if c i then some (f i) else none
  | _ => none
def sLst1 (f : List D → Option D) : List D → Option D
  | [.lst ds] => f ds
  | _ => none
def sIsi (ts : List Ty) : List D → Option D
  | [d] => some (.bl (ts.any fun t => isTy t d))
  | _ => none
def sem : Op → List D → Option D
  | .add => sAdd
  | .sub => sInt2 (fun _ _ => true) fun i j => .int (i - j)
  | .mul => sInt2 mulOk fun i j => .int (i * j)
  | .fdiv => sInt2 (fun _ j => decide (0 < j) && decide (j < 1073741824)) fun i j => .int (i / j)
  | .mod => sInt2 (fun _ j => decide (0 < j)) fun i j => .int (i % j)
  | .pow => sInt2 (fun i j => decide (0 ≤ j) && decide (j ≤ 1000) && decide (i.natAbs < 2 ^ 64)) fun i j => .int (i ^ j.toNat)
  | .neg => sInt1 (fun _ => true) fun i => .int (-i)
  | .eq => sEq false
  | .ne => sEq true
  | .lt => sInt2 (fun _ _ => true) fun i j => .bl (decide (i < j))
  | .le => sInt2 (fun _ _ => true) fun i j => .bl (decide (i ≤ j))
  | .gt => sInt2 (fun _ _ => true) fun i j => .bl (decide (j < i))
  | .ge => sInt2 (fun _ _ => true) fun i j => .bl (decide (j ≤ i))
  | .isN => sIsN false
  | .notN => sIsN true
  | .idx => sIdx
  | .len => sLen
  | .int => sInt
  | .abs => sInt1 (fun _ => true) fun i => .int (if i < 0 then -i else i)
  | .str => sInt1 (fun i => decide (i.natAbs.log2 < 1920)) fun i => .str (digits i)
  | .sum => sLst1 fun ds => (asInts ds).map fun l => .int l.sum
  | .all => sLst1 fun ds => (asBools ds).map fun l => .bl (l.all id)
  | .any => sLst1 fun ds => (asBools ds).map fun l => .bl (l.any id)
  | .isi ts => sIsi ts
  | _ => fun _ => none

/-! ### evaluation -/
def isBor : E → Option Nat
  | .bor i => some i
  | _ => none
/-- operands that are borrowed are read when all others have been evaluated -/
@[simp] def fillD : Es → List D → Env → Option (List D)
  | .nil, _, _ => some []
  | .cons e es, d :: ds, env =>
    match isBor e with
    | some i => match frz (getS env i), fillD es ds env with
      | some x, some xs => some (x :: xs)
      | _, _ => none
    | none => (fillD es ds env).map (d :: ·)
  | .cons _ _, [], _ => none
/-- arguments: borrowed ones are handed by reference -/
@[simp] def fillO : Es → List D → Env → List O
  | .cons e es, d :: ds, env =>
    match isBor e with
    | some i => getS env i :: fillO es ds env
    | none => .v d :: fillO es ds env
  | _, _, _ => []
/-- what a call leaves of the slots that were handed by reference -/
@[simp] def backO : Es → List O → Env → Env
  | .cons e es, o :: os, env =>
    match isBor e with
    | some i => backO es os (setS env i o)
    | none => backO es os env
  | _, _, env => env
/-- the slots handed by reference are unlike -/
@[simp] def bors : Es → List Nat
  | .nil => []
  | .cons e es => match isBor e with
    | some i => i :: bors es
    | none => bors es

@[simp] def wipeS (env : Env) : List Nat → Env
  | [] => env
  | i :: l => setS (wipeS env l) i .un
@[simp] def backS (env old : Env) : List Nat → Env
  | [] => env
  | i :: l => setS (backS env old l) i (getS old i)

mutual
@[simp] def put : Tg → D → Env → Option Env
  | .name i, d, env => some (setS env i (.v d))
  | .tup ts, .tup ds, env => puts ts ds env
  | .tup _, _, _ => none
@[simp] def puts : Tgs → List D → Env → Option Env
  | .nil, [], env => some env
  | .cons t ts, d :: ds, env => match put t d env with
    | some env => puts ts ds env
    | none => none
  | _, _, _ => none
end

def rangeL (lo : Int) : Nat → List D
  | 0 => []
  | n + 1 => .int lo :: rangeL (lo + 1) n
def enumL (k : Int) : List D → List D
  | [] => []
  | d :: ds => .tup [.int k, d] :: enumL (k + 1) ds
def zipL : List D → List D → List D
  | a :: as, b :: bs => .tup [a, b] :: zipL as bs
  | _, _ => []
def seqOf : D → Option (List D)
  | .lst ds => some ds
  | .tup ds => some ds
  | .str s => some (s.map fun c => .str [c])
  | _ => none
def rangeOf : List D → Option (List D)
  | [.int n] => if -(2 ^ 62) ≤ n ∧ n < 2 ^ 62 then some (rangeL 0 n.toNat) else none
  | [.int lo, .int hi] => if -(2 ^ 62) ≤ lo ∧ lo < 2 ^ 62 ∧ -(2 ^ 62) ≤ hi ∧ hi < 2 ^ 62 then some (rangeL lo (hi - lo).toNat) else none
  | _ => none
def liftL {α : Type} (env : Env) : Option α → Res α
  | some d => .ok d env
  | none => .stuck

/-- the turns of a comprehension -/
def lcGo (turn : D → Env → Res (Option D)) : List D → Env → Res (List D)
  | [], env => .ok [] env
  | x :: xs, env => (turn x env).bind fun y env => (lcGo turn xs env).bind fun ys env => .ok (match y with | some y => y :: ys | none => ys) env
/-- no exception leaves a comprehension -/
def Res.calm {α : Type} : Res α → Res α
  | .ok a env => .ok a env
  | _ => .stuck

/-- what the program is: the fields of classes, the top's constants, the defs, the errors' words -/
structure Cfg where
  ct : Nat → List Nat
  gl : Nat → D
  call : Nat → List O → CRes
  flag : Nat → Nat → Option Nat
section
variable (G : Cfg)
/-- an instance's attribute -/
def fieldD : D → Nat → Option D
  | .ins c ds, f => match (G.ct c).findIdx? (· == f) with
    | some i => ds[i]?
    | none => none
  | _, _ => none
def fieldO : O → Nat → Option D
  | .v d, f => fieldD G d f
  | .fi _ fs, f => fs.lookup f
  | _, _ => none
/-- a call's end, from the arguments' -/
def callR (f : Nat) (es : Es) : Res (List D) → Res O
  | .ok ds env => if (bors es).Nodup then match G.call f (fillO es ds env) with
      | .ret o fin => .ok o (backO es fin env)
      | .exc c ds fin => .exc c ds (backO es fin env)
      | .stuck => .stuck
    else .stuck
  | .exc c ds env => .exc c ds env
  | .stuck => .stuck
/-- a comprehension, from what it walks, its tests and its element -/
def lcR (tg : Tg) (own : List Nat) (tests : Env → Res Bool) (elt : Env → Res D) (r : Res (List D)) : Res (List D) :=
  (r.bind fun xs env =>
    (lcGo (fun x env1 => match put tg x (wipeS env1 own) with
      | none => .stuck
      | some env2 => (tests env2).bind fun b env3 => if b then (elt env3).bind fun d env4 => .ok (some d) env4 else .ok none env3) xs env).bind fun ds env' =>
        if xs.length < line then .ok ds (backS env' env own) else .stuck).calm
def isNonE : E → Bool
  | .non => true
  | _ => false
/-- a slice's bound: left out, or an int -/
def partR : Bool → Res D → Res (Option Int)
  | true, .ok _ env => .ok none env
  | false, .ok (.int i) env => .ok (some i) env
  | _, .exc c ds env => .exc c ds env
  | _, _ => .stuck
/-- what is borrowed, else what was told -/
def borD (e : E) (d : D) (env : Env) : Option D :=
  match isBor e with
  | some i => frz (getS env i)
  | none => some d
def valR : Res O → Res D
  | .ok o env => match frz o with
    | some d => .ok d env
    | none => .stuck
  | .exc c ds env => .exc c ds env
  | .stuck => .stuck
def wordR (f : Nat) : Res D → Res D
  | .ok d env => .ok (.tup [.str [116, 111, 108, 100], d]) env
  | .exc c [] env => match G.flag f c with
    | some i => .ok (.tup [.int i]) env
    | none => .stuck
  | .exc _ (_ :: _) _ => .stuck
  | .stuck => .stuck
mutual
def evalE : E → Env → Res D
  | .non, env => .ok .non env
  | .bl b, env => .ok (.bl b) env
  | .int i, env => .ok (.int i) env
  | .str s, env => .ok (.str s) env
  | .var i, env => match frz (getS env i) with
    | some d => .ok d (setS env i (.v d))
    | none => .stuck
  | .bor i, env => match getS env i with
    | .un => .stuck
    | _ => .ok .non env
  | .glb g, env => .ok (G.gl g) env
  | .op o es, env => (evalEs es env).bind fun ds env => match fillD es ds env with
    | some ds => lift env (sem o ds)
    | none => .stuck
  | .and es, env => evalAnd es env
  | .or es, env => evalOr es env
  | .not a, env => (evalE a env).bind fun d env => match d with
    | .bl b => .ok (.bl (!b)) env
    | _ => .stuck
  | .ite c a b, env => (evalE c env).bind fun d env => bcase d (evalE a env) (evalE b env)
  | .ch o1 o2 a b c, env => (evalE a env).bind fun x env => (evalE b env).bind fun y env => match sem o1 [x, y] with
    | some (.bl true) => (evalE c env).bind fun z env => lift env (sem o2 [y, z])
    | some (.bl false) => .ok (.bl false) env
    | _ => .stuck
  | .sl a lo hi, env => (evalE a env).bind fun d env => (partR (isNonE lo) (evalE lo env)).bind fun i env => (partR (isNonE hi) (evalE hi env)).bind fun j env => lift env ((borD a d env).bind (sCut i j))
  | .att a f, env => (evalE a env).bind fun d env => match isBor a with
    | some i => lift env (fieldO G (getS env i) f)
    | none => lift env (fieldD G d f)
  | .tup es, env => (evalEs es env).bind fun ds env => if ds.length ≤ line ∧ bors es = [] then .ok (.tup ds) env else .stuck
  | .lst es, env => (evalEs es env).bind fun ds env => if ds.length ≤ line ∧ bors es = [] then .ok (.lst ds) env else .stuck
  | .dnew, env => .ok (.dct [] []) env
  | .call f es, env => valR (callR G f es (evalEs es env))
  | .mk _ _, _ => .stuck
  | .lc tg own it cs e, env => (lcR tg own (testAll cs) (evalE e) (evalIt it env)).bind fun ds env => .ok (.lst ds) env
  | .word f e, env => wordR G f (evalE e env)
def evalEs : Es → Env → Res (List D)
  | .nil, env => .ok [] env
  | .cons e es, env => (evalE e env).bind fun d env => (evalEs es env).bind fun ds env => .ok (d :: ds) env
def evalAnd : Es → Env → Res D
  | .nil, _ => .stuck
  | .cons e es, env => (evalE e env).bind fun d env => match es with
    | .nil => .ok d env
    | .cons _ _ => bcase d (evalAnd es env) (.ok (.bl false) env)
def evalOr : Es → Env → Res D
  | .nil, _ => .stuck
  | .cons e es, env => (evalE e env).bind fun d env => match es with
    | .nil => .ok d env
    | .cons _ _ => bcase d (.ok (.bl true) env) (evalOr es env)
/-- the tests of a comprehension: none, or one -/
def testAll : Es → Env → Res Bool
  | .nil, env => .ok true env
  | .cons c cs, env => (evalE c env).bind fun d env => match d, cs with
    | .bl b, .nil => .ok b env
    | _, _ => .stuck
def evalIt : It → Env → Res (List D)
  | .seq e, env => (evalE e env).bind fun d env => liftL env (seqOf d)
  | .range es, env => (evalEs es env).bind fun ds env => liftL env (rangeOf ds)
  | .enum e, env => (evalE e env).bind fun d env => match d with
    | .lst ds => .ok (enumL 0 ds) env
    | _ => .stuck
  | .zip a b, env => (evalE a env).bind fun x env => (evalE b env).bind fun y env => match x, y with
    | .lst xs, .lst ys => .ok (zipL xs ys) env
    | .tup xs, .tup ys => .ok (zipL xs ys) env
    | _, _ => .stuck
end
/-- where what is made may stay one's own -/
def evalO : E → Env → Res O
  | .lst es, env => (evalEs G es env).bind fun ds env => if ds.length ≤ line ∧ bors es = [] then .ok (.fl ds) env else .stuck
  | .dnew, env => .ok (.fd [] []) env
  | .call f es, env => callR G f es (evalEs G es env)
  | .lc tg own it cs e, env => (lcR tg own (testAll G cs) (evalE G e) (evalIt G it env)).bind fun ds env => .ok (.fl ds) env
  | e, env => (evalE G e env).bind fun d env => .ok (.v d) env

/-! ### statements -/
/-- a loop's body -/
def again (next : Env → Res Fl) (f : Fl) (env : Env) : Res Fl := match f with
  | .nxt => next env
  | .cont => next env
  | .brk => .ok .nxt env
  | .ret o => .ok (.ret o) env
def whileN (c : Env → Res D) (b : Env → Res Fl) : Nat → Env → Res Fl
  | 0, _ => .stuck
  | n + 1, env => (c env).bind fun d env => bcase d ((b env).bind (again (whileN c b n))) (.ok .nxt env)
def forN (t : Tg) (b : Env → Res Fl) : List D → Env → Res Fl
  | [], env => .ok .nxt env
  | x :: xs, env => match put t x env with
    | none => .stuck
    | some env => (b env).bind (again (forN t b xs))
def setO : O → D → D → Option O
  | .fl ds, .int i, d => if 0 ≤ i ∧ i < ds.length then some (.fl (ds.set i.toNat d)) else none
  | _, _, _ => none
def appO : O → D → Option O
  | .fl ds, d => if ds.length < line then some (.fl (ds ++ [d])) else none
  | _, _ => none
def putFld (f : Nat) (d : D) : List (Nat × D) → List (Nat × D)
  | [] => [(f, d)]
  | (g, x) :: r => if g = f then (g, d) :: r else (g, x) :: putFld f d r
def stfO : O → Nat → D → Option O
  | .fi c fs, f, d => some (.fi c (putFld f d fs))
  | _, _, _ => none
def keepO (i : Nat) : Res (Option O) → Res Fl
  | .ok (some o) env => .ok .nxt (setS env i o)
  | .ok none _ => .stuck
  | .exc c ds env => .exc c ds env
  | .stuck => .stuck
mutual
def exec : S → Env → Res Fl
  | .asg i e, env => (evalE G e env).bind fun d env => .ok .nxt (setS env i (.v d))
  | .asgO i e, env => (evalO G e env).bind fun o env => .ok .nxt (setS env i o)
  | .unp t e, env => (evalE G e env).bind fun d env => match put t d env with
    | some env => .ok .nxt env
    | none => .stuck
  | .set i k e, env => (evalE G e env).bind fun d env => match getS env i with
    | .fl _ => (evalE G k env).bind fun x env => match setO (getS env i) x d with
      | some o => .ok .nxt (setS env i o)
      | none => .stuck
    | _ => .stuck
  | .app i e, env => match getS env i with
    | .fl _ => (evalE G e env).bind fun d env => match appO (getS env i) d with
      | some o => .ok .nxt (setS env i o)
      | none => .stuck
    | _ => .stuck
  | .stf i f e, env => (evalE G e env).bind fun d env => match stfO (getS env i) f d with
    | some o => .ok .nxt (setS env i o)
    | none => .stuck
  | .ex e, env => (evalE G e env).bind fun _ env => .ok .nxt env
  | .ret e, env => (evalE G e env).bind fun d env => .ok (.ret (.v d)) env
  | .retO e, env => (evalO G e env).bind fun o env => .ok (.ret o) env
  | .retM i, env => match getS env i with
    | .un => .stuck
    | o => .ok (.ret o) (setS env i .un)
  | .retN, env => .ok (.ret (.v .non)) env
  | .ite c a b, env => (evalE G c env).bind fun d env => bcase d (execs a env) (execs b env)
  | .for t it b, env => (evalIt G it env).bind fun xs env => forN t (execs b) xs env
  | .whl n c b, env => whileN (evalE G c) (execs b) n env
  | .aug i o e, env => match getS env i with
    | .v (.int x) => (evalE G e env).bind fun y env => match sem o [.int x, y] with
      | some z => .ok .nxt (setS env i (.v z))
      | none => .stuck
    | _ => .stuck
  | .rse c es, env => (evalEs G es env).bind fun ds env => if bors es = [] then .exc c ds env else .stuck
  | .pass, env => .ok .nxt env
  | .brk, env => .ok .brk env
  | .cont, env => .ok .cont env
def execs : Ss → Env → Res Fl
  | .nil, env => .ok .nxt env
  | .cons s ss, env => (exec s env).bind fun f env => match f with
    | .nxt => execs ss env
    | f => .ok f env
end
end
/-- a def: how many parameters, how many slots, the parameters that are never stored anew, the body -/
structure Fn where
  np : Nat
  ns : Nat
  prot : List Nat
  body : Ss
/-- own arguments come to parameters that are never stored anew; every argument is something -/
def ownOk (prot : List Nat) : Nat → List O → Bool
  | _, [] => true
  | i, o :: os => (match o with
    | .un => false
    | .v _ => true
    | _ => prot.contains i) && ownOk prot (i + 1) os
/-- what a call leaves of its own arguments -/
@[simp] def finals : List O → Env → List O
  | o :: os, e :: env => (match o with
    | .v d => .v d
    | .un => .un
    | _ => e) :: finals os env
  | _, _ => []
def callF (G : Cfg) (f : Fn) (os : List O) : CRes :=
  if os.length = f.np ∧ ownOk f.prot 0 os = true then
    match execs G f.body (os ++ List.replicate (f.ns - f.np) .un) with
    | .ok .nxt env => .ret (.v .non) (finals os env)
    | .ok (.ret o) env => .ret o (finals os env)
    | .exc c ds env => .exc c ds (finals os env)
    | _ => .stuck
  else .stuck
end Py
end
section
set_option Elab.async false
set_option linter.all false
set_option maxRecDepth 100000
set_option maxHeartbeats 2000000
/-! Py over HandS: what stands for data, the state, the frame. -/
namespace Py
open PySem L2

/-- the run's tables: the written part, classes' addresses and fields, tables of lambdas -/
structure Tb where
  K : PySem.W.Frag
  ca : Nat → Addr
  cf : Nat → List Nat
  nm : Nat → Str
  T : List (Addr × Str)
  cls : List Nat

def keyD : Key → D
  | .inl i => .int i
  | .inr x => .str x.cps.toList

mutual
/-- v stands for d; what it reads lies in F -/
inductive Rep (B : Tb) (F : Hp) : V → D → Prop
  | non : Rep B F .non .non
  | bl (b : Bool) : Rep B F (.bl b) (.bl b)
  | int (i : Int) : Rep B F (.int i) (.int i)
  | str (x : Str) : Rep B F (.str x) (.str x.cps.toList)
  | tup {a : Addr} {vs : List V} {ds : List D} : SqT B.K F a vs → RepL B F vs ds → Rep B F (.ref a) (.tup ds)
  | lst {a : Addr} {vs : List V} {ds : List D} : SqL B.K F a vs → RepL B F vs ds → Rep B F (.ref a) (.lst ds)
  | dct {a : Addr} {kvs : List (Key × V)} {ds : List D} : F a = some (.dK kvs) → RepL B F (kvs.map (·.2)) ds → Rep B F (.ref a) (.dct (kvs.map fun p => keyD p.1) ds)
  | ins {a dx : Addr} {c : Nat} {fs : List (Str × V)} {ds : List D} : c ∈ B.cls → F a = some (.ins (B.ca c) dx fs) → fs.map (·.1) = (B.cf c).map B.nm → RepL B F (fs.map (·.2)) ds → Rep B F (.ref a) (.ins c ds)
inductive RepL (B : Tb) (F : Hp) : List V → List D → Prop
  | nil : RepL B F [] []
  | cons {v : V} {vs : List V} {d : D} {ds : List D} : Rep B F v d → RepL B F vs ds → RepL B F (v :: vs) (d :: ds)
end

def Ex (H H' : Hp) : Prop := ∀ a o, H a = some o → H' a = some o
theorem Ex.refl (H : Hp) : Ex H H := fun _ _ h => h
theorem Ex.trans {H H1 H2 : Hp} (a : Ex H H1) (b : Ex H1 H2) : Ex H H2 := fun x o h => b x o (a x o h)
theorem Ex.new {H : Hp} {p : Addr} {o : HO} (h : H p = none) : Ex H (upd H p o) := fun a u e => by
  rw [upd_ne (ne_of_none e h)]
  exact e
theorem ex_rd {H H' : Hp} {a : Addr} {u : HO} (e : Ex H H') (h : Rd H a u) : Rd H' a u := by
  rcases h with h | ⟨o, h⟩
  · exact .inl (e a _ h)
  · exact .inr ⟨o, e a _ h⟩
theorem ex_l {K : PySem.W.Frag} {H H' : Hp} {a : Addr} {xs : List V} (e : Ex H H') (h : SqL K H a xs) : SqL K H' a xs := by
  rcases h with h | h
  · exact .inl (ex_rd e h)
  · exact .inr h
theorem ex_t {K : PySem.W.Frag} {H H' : Hp} {a : Addr} {xs : List V} (e : Ex H H') (h : SqT K H a xs) : SqT K H' a xs := by
  rcases h with h | h
  · exact .inl (ex_rd e h)
  · exact .inr h

section
variable {B : Tb} {F F' : Hp}
mutual
theorem Rep.ex (e : Ex F F') : ∀ {v : V} {d : D}, Rep B F v d → Rep B F' v d
  | _, _, .non => .non
  | _, _, .bl b => .bl b
  | _, _, .int i => .int i
  | _, _, .str x => .str x
  | _, _, .tup h r => .tup (ex_t e h) (RepL.ex e r)
  | _, _, .lst h r => .lst (ex_l e h) (RepL.ex e r)
  | _, _, .dct h r => .dct (e _ _ h) (RepL.ex e r)
  | _, _, .ins m h n r => .ins m (e _ _ h) n (RepL.ex e r)
theorem RepL.ex (e : Ex F F') : ∀ {vs : List V} {ds : List D}, RepL B F vs ds → RepL B F' vs ds
  | _, _, .nil => .nil
  | _, _, .cons h r => .cons (Rep.ex e h) (RepL.ex e r)
end
theorem RepL.length : ∀ {vs : List V} {ds : List D}, RepL B F vs ds → vs.length = ds.length
  | _, _, .nil => rfl
  | _, _, .cons _ r => by rw [List.length_cons, List.length_cons, RepL.length r]
theorem RepL.get : ∀ {vs : List V} {ds : List D}, RepL B F vs ds → ∀ {i : Nat} {v : V}, vs[i]? = some v → ∃ d, ds[i]? = some d ∧ Rep B F v d
  | _, _, .nil, i, v, h => by simp at h
  | _, _, .cons q r, 0, v, h => by simp at h; subst h; exact ⟨_, rfl, q⟩
  | _, _, .cons q r, i + 1, v, h => by
    obtain ⟨d, h1, h2⟩ := RepL.get r (i := i) (v := v) (by simpa using h)
    exact ⟨d, by simpa using h1, h2⟩
theorem RepL.getD : ∀ {vs : List V} {ds : List D}, RepL B F vs ds → ∀ {i : Nat} {d : D}, ds[i]? = some d → ∃ v, vs[i]? = some v ∧ Rep B F v d
  | _, _, .nil, i, v, h => by simp at h
  | _, _, .cons q r, 0, v, h => by simp at h; subst h; exact ⟨_, rfl, q⟩
  | _, _, .cons q r, i + 1, v, h => by
    obtain ⟨d, h1, h2⟩ := RepL.getD r (i := i) (d := v) (by simpa using h)
    exact ⟨d, by simpa using h1, h2⟩
theorem RepL.append : ∀ {vs ws : List V} {ds es : List D}, RepL B F vs ds → RepL B F ws es → RepL B F (vs ++ ws) (ds ++ es)
  | _, _, _, _, .nil, s => s
  | _, _, _, _, .cons q r, s => .cons q (RepL.append r s)
theorem RepL.take : ∀ {vs : List V} {ds : List D} (n : Nat), RepL B F vs ds → RepL B F (vs.take n) (ds.take n)
  | _, _, 0, _ => .nil
  | _, _, _ + 1, .nil => .nil
  | _, _, n + 1, .cons q r => .cons q (RepL.take n r)
theorem RepL.drop : ∀ {vs : List V} {ds : List D} (n : Nat), RepL B F vs ds → RepL B F (vs.drop n) (ds.drop n)
  | _, _, 0, r => r
  | _, _, _ + 1, .nil => .nil
  | _, _, n + 1, .cons _ r => RepL.drop n r
theorem RepL.set : ∀ {vs : List V} {ds : List D} {v : V} {d : D} (n : Nat), RepL B F vs ds → Rep B F v d → RepL B F (vs.set n v) (ds.set n d)
  | _, _, _, _, _, .nil, _ => .nil
  | _, _, _, _, 0, .cons _ r, q => .cons q r
  | _, _, _, _, n + 1, .cons p r, q => .cons p (RepL.set n r q)
end

/-! ### the state -/
def isOwn : O → Bool
  | .un => false
  | .v _ => false
  | _ => true
/-- what a slot holds -/
def SlotR (B : Tb) (F H : Hp) (x : Option (Option V)) : O → Prop
  | .un => True
  | .v d => ∃ v, x = some (some v) ∧ Rep B F v d
  | .fl ds => ∃ p vs, x = some (some (.ref p)) ∧ F p = none ∧ H p = some (.lst vs) ∧ RepL B F vs ds
  | .fd ks ds => ∃ p kvs, x = some (some (.ref p)) ∧ F p = none ∧ H p = some (.dK kvs) ∧ ks = kvs.map (fun q => keyD q.1) ∧ RepL B F (kvs.map (·.2)) ds
  | .fi c gs => ∃ p dx fs, x = some (some (.ref p)) ∧ F p = none ∧ H p = some (.ins (B.ca c) dx fs) ∧ fs.map (·.1) = gs.map (fun q => B.nm q.1) ∧ RepL B F (fs.map (·.2)) (gs.map (·.2)) ∧ gs.length ≤ 900
/-- the addresses that the slots own -/
def Ow (env : Env) (σ : L2.St) (p : Addr) : Prop := ∃ i, isOwn (getS env i) = true ∧ σ[i]? = some (some (.ref p))
structure SR (B : Tb) (F H : Hp) (σ : L2.St) (env : Env) : Prop where
  ext : Ex F H
  tab : LamX.Tabs B.T H
  notab : ∀ b ps, F b ≠ some (.tbl ps)
  len : env.length = σ.length
  slot : ∀ i, SlotR B F H σ[i]? (getS env i)
  apart : ∀ i j p, isOwn (getS env i) = true → isOwn (getS env j) = true → σ[i]? = some (some (V.ref p)) → σ[j]? = some (some (V.ref p)) → i = j
/-- nothing, or a table of code objects -/
def Nz (H : Hp) (b : Addr) : Prop := ∀ o, H b = some o → ∃ ps, o = .tbl ps
theorem nz_none {H : Hp} {b : Addr} (h : H b = none) : Nz H b := fun o e => by rw [h] at e; cases e
theorem nz_some {H : Hp} {b : Addr} {o : HO} (h : H b = some o) (ht : ∀ ps, o ≠ .tbl ps) : ¬ Nz H b := fun z => by
  obtain ⟨ps, e⟩ := z o h
  exact ht ps e
theorem nz_new {H : Hp} {p b : Addr} {o : HO} (hp : H p = none) (h : Nz (upd H p o) b) : Nz H b := by
  by_cases e : b = p
  · subst e; exact nz_none hp
  · intro u hu
    exact h u (by rw [upd_ne e]; exact hu)
theorem nz_mod {H : Hp} {p b : Addr} {o : HO} (ho : ∀ ps, o ≠ .tbl ps) (h : Nz (upd H p o) b) : Nz H b := by
  by_cases e : b = p
  · subst e; exact absurd h (nz_some upd_same ho)
  · intro u hu
    exact h u (by rw [upd_ne e]; exact hu)
/-- how the heap goes on: A may change and become frozen -/
structure Fr (A : Addr → Prop) (F H F' H' : Hp) : Prop where
  ext : Ex F F'
  new : ∀ b, F b = none → F' b ≠ none → A b ∨ Nz H b
  keep : ∀ b o, H b = some o → ¬ A b → (∀ ps, o ≠ .tbl ps) → H' b = some o
  there : ∀ b, Nz H' b → Nz H b
theorem Fr.refl {A : Addr → Prop} {F H : Hp} : Fr A F H F H := ⟨Ex.refl F, fun _ h n => absurd h n, fun _ _ h _ _ => h, fun _ h => h⟩
theorem Fr.trans {A A' : Addr → Prop} {F H F1 H1 F2 H2 : Hp} (x : Fr A F H F1 H1) (y : Fr A' F1 H1 F2 H2) (hA : ∀ b, A' b → A b ∨ Nz H b) : Fr A F H F2 H2 := by
  refine ⟨x.ext.trans y.ext, fun b h n => ?_, fun b o h hb ht => ?_, fun b h => x.there b (y.there b h)⟩
  · cases e : F1 b with
    | none =>
      rcases y.new b e n with z | z
      · exact hA b z
      · exact .inr (x.there b z)
    | some o => exact x.new b h (by rw [e]; simp)
  · refine y.keep b o (x.keep b o h hb ht) (fun z => ?_) ht
    rcases hA b z with q | q
    · exact hb q
    · exact nz_some h ht q
theorem Fr.mono {A A' : Addr → Prop} {F H F' H' : Hp} (x : Fr A F H F' H') (h : ∀ b, A b → A' b) : Fr A' F H F' H' :=
  ⟨x.ext, fun b h1 h2 => (x.new b h1 h2).imp (h b) id, fun b o h1 h2 h3 => x.keep b o h1 (fun z => h2 (h b z)) h3, x.there⟩

section
variable {B : Tb} {F H F' H' : Hp} {σ σ' : L2.St} {env env' : Env}
theorem getS_none {env : Env} : ∀ {i : Nat}, env.length ≤ i → getS env i = .un := by
  induction env with
  | nil => intro i _; cases i <;> rfl
  | cons a l ih =>
    intro i h
    cases i with
    | zero => simp at h
    | succ i => exact ih (by simpa using h)
theorem setS_length : ∀ (env : Env) (i : Nat) (o : O), (setS env i o).length = env.length
  | [], _, _ => rfl
  | _ :: _, 0, _ => rfl
  | a :: l, i + 1, o => by simp [setS_length l i o]
theorem getS_set_self : ∀ {env : Env} {i : Nat} {o : O}, i < env.length → getS (setS env i o) i = o
  | [], _, _, h => by simp at h
  | _ :: _, 0, _, _ => rfl
  | a :: l, i + 1, o, h => by simpa using getS_set_self (env := l) (i := i) (by simpa using h)
theorem getS_set_ne : ∀ {env : Env} {i j : Nat} {o : O}, i ≠ j → getS (setS env i o) j = getS env j
  | [], i, j, _, _ => by cases j <;> rfl
  | _ :: _, 0, 0, _, h => absurd rfl h
  | _ :: _, 0, j + 1, _, _ => rfl
  | _ :: _, i + 1, 0, _, _ => rfl
  | a :: l, i + 1, j + 1, o, h => by simpa using getS_set_ne (env := l) (i := i) (j := j) (by omega)
theorem getS_set_out : ∀ {env : Env} {i : Nat} {o : O}, env.length ≤ i → setS env i o = env
  | [], _, _, _ => rfl
  | _ :: _, 0, _, h => by simp at h
  | a :: l, i + 1, o, h => by simp [getS_set_out (env := l) (i := i) (o := o) (by simpa using h)]

/-- a slot that is not owned by a change is kept -/
theorem SlotR.keep {A : Addr → Prop} {x : Option (Option V)} {o : O} (f : Fr A F H F' H') (ex' : Ex F' H') (h : SlotR B F H x o) (hA : isOwn o = true → ∀ p, x = some (some (.ref p)) → ¬ A p) : SlotR B F' H' x o := by
  have free : isOwn o = true → ∀ p u, x = some (some (.ref p)) → F p = none → H p = some u → (∀ ps, u ≠ .tbl ps) → F' p = none ∧ H' p = some u := fun ho p u hx h1 h2 ht => by
    refine ⟨?_, f.keep p u h2 (hA ho p hx) ht⟩
    cases e : F' p with
    | none => rfl
    | some w =>
      rcases f.new p h1 (by rw [e]; simp) with z | z
      · exact absurd z (hA ho p hx)
      · exact absurd z (nz_some h2 ht)
  cases o with
  | un => trivial
  | v d =>
    obtain ⟨v, e, r⟩ := h
    exact ⟨v, e, r.ex f.ext⟩
  | fl ds =>
    obtain ⟨p, vs, e, h1, h2, r⟩ := h
    obtain ⟨z1, z2⟩ := free rfl p _ e h1 h2 (fun _ z => nomatch z)
    exact ⟨p, vs, e, z1, z2, r.ex f.ext⟩
  | fd ks ds =>
    obtain ⟨p, kvs, e, h1, h2, hk, r⟩ := h
    obtain ⟨z1, z2⟩ := free rfl p _ e h1 h2 (fun _ z => nomatch z)
    exact ⟨p, kvs, e, z1, z2, hk, r.ex f.ext⟩
  | fi c gs =>
    obtain ⟨p, dx, fs, e, h1, h2, hn, r, hl⟩ := h
    obtain ⟨z1, z2⟩ := free rfl p _ e h1 h2 (fun _ z => nomatch z)
    exact ⟨p, dx, fs, e, z1, z2, hn, r.ex f.ext, hl⟩
theorem SlotR.own {x : Option (Option V)} {o : O} (h : SlotR B F H x o) (ho : isOwn o = true) : ∃ p u, x = some (some (.ref p)) ∧ F p = none ∧ H p = some u ∧ (∀ ps, u ≠ .tbl ps) := by
  cases o with
  | un => cases ho
  | v d => cases ho
  | fl ds => obtain ⟨p, vs, e, h1, h2, _⟩ := h; exact ⟨p, _, e, h1, h2, fun _ z => nomatch z⟩
  | fd ks ds => obtain ⟨p, vs, e, h1, h2, _⟩ := h; exact ⟨p, _, e, h1, h2, fun _ z => nomatch z⟩
  | fi c gs => obtain ⟨p, dx, vs, e, h1, h2, _⟩ := h; exact ⟨p, _, e, h1, h2, fun _ z => nomatch z⟩
theorem SR.lt (S : SR B F H σ env) {i : Nat} {o : O} (h : getS env i = o) (ho : o ≠ .un) : i < env.length := by
  by_cases hi : i < env.length
  · exact hi
  · exact absurd (h.symm.trans (getS_none (by omega))) ho
theorem SR.free (S : SR B F H σ env) {p : Addr} (h : Ow env σ p) : F p = none ∧ ¬ Nz H p := by
  obtain ⟨i, h1, h2⟩ := h
  obtain ⟨q, u, e, h3, h4, h5⟩ := (S.slot i).own h1
  rw [h2] at e
  cases e
  exact ⟨h3, nz_some h4 h5⟩
/-- all as it was, what is frozen has grown -/
theorem SR.keep (S : SR B F H σ env) (f : Fr (fun _ => False) F H F' H') (ex' : Ex F' H') (t : LamX.Tabs B.T H') (nt : ∀ b ps, F' b ≠ some (.tbl ps)) : SR B F' H' σ env :=
  ⟨ex', t, nt, S.len, fun i => (S.slot i).keep f ex' fun _ _ _ z => z, S.apart⟩
end
end Py
end
section
set_option Elab.async false
set_option linter.all false
set_option maxRecDepth 100000
set_option maxHeartbeats 2000000
/-! Py over HandS: the readings of evaluations. -/
namespace Py
open PySem L2

/-- what an exception bears -/
def ExcR (B : Tb) (F H : Hp) (c : Nat) (ds : List D) (dd : Option Addr) : Prop :=
  (ds = [] ∧ dd = none) ∨ ds ≠ [] ∧ ∃ a fs, dd = some a ∧ H a = some (.xd fs) ∧ fs.map (·.1) = (B.cf c).map B.nm ∧ RepL B F (fs.map (·.2)) ds

/-- whatever r tells, what is wanted holds -/
def Tell (B : Tb) (W : WX) (σ : L2.St) {α : Type} (r : Res α) (F H : Hp) (env : Env) (k : α → Env → Hp → Hp → Prop) : Prop :=
  match r with
  | .ok a env' => ∀ F' H', Fr (Ow env σ) F H F' H' → SR B F' H' σ env' → (∀ b, Ow env' σ b → Ow env σ b) → k a env' F' H'
  | .exc c ds env' => ∀ F' H' dd, Fr (Ow env σ) F H F' H' → SR B F' H' σ env' → (∀ b, Ow env' σ b → Ow env σ b) → ExcR B F' H' c ds dd → W (.ref (B.ca c)) dd σ H'
  | .stuck => False
section
variable {B : Tb} {W : WX} {σ : L2.St} {α β : Type} {r : Res α} {F H F1 H1 : Hp} {env env1 : Env} {k k' : α → Env → Hp → Hp → Prop}
theorem Tell.mono (t : Tell B W σ r F H env k) (h : ∀ a env' F' H', Fr (Ow env σ) F H F' H' → SR B F' H' σ env' → (∀ b, Ow env' σ b → Ow env σ b) → k a env' F' H' → k' a env' F' H') : Tell B W σ r F H env k' := by
  cases r with
  | ok a env' => exact fun F' H' f s o => h _ _ _ _ f s o (t F' H' f s o)
  | exc c ds env' => exact t
  | stuck => exact t
theorem Tell.from_ (t : Tell B W σ r F H env k) (f : Fr (Ow env σ) F H F1 H1) (o : ∀ b, Ow env1 σ b → Ow env σ b) : Tell B W σ r F1 H1 env1 k := by
  cases r with
  | ok a env' => exact fun F' H' f' s o' => t F' H' (f.trans f' fun b z => .inl (o b z)) s fun b z => o b (o' b z)
  | exc c ds env' => exact fun F' H' dd f' s o' e => t F' H' dd (f.trans f' fun b z => .inl (o b z)) s (fun b z => o b (o' b z)) e
  | stuck => exact t
theorem Tell.bind {f : α → Env → Res β} {k : β → Env → Hp → Hp → Prop} (t : Tell B W σ (r.bind f) F H env k) : Tell B W σ r F H env (fun a env' F' H' => Tell B W σ (f a env') F' H' env' k) := by
  cases r with
  | ok a env' => exact fun F' H' fr s o => Tell.from_ (r := f a env') t fr o
  | exc c ds env' => exact t
  | stuck => exact t
/-- ended at once -/
theorem Tell.now {a : α} (t : Tell B W σ (.ok a env) F H env k) (S : SR B F H σ env) : k a env F H := t F H Fr.refl S fun _ h => h
end

/-- an expression's reading -/
def GE (B : Tb) (W : WX) (f : Env → Res D) : TE := fun σ H Q => ∃ F env, SR B F H σ env ∧ Tell B W σ (f env) F H env (fun d _ F' H' => ∀ v, Rep B F' v d → Q v H')
/-- what an own thing that is not in a slot yet stands for -/
def OutR (B : Tb) (F H : Hp) (σ : L2.St) (env : Env) (v : V) (o : O) : Prop := SlotR B F H (some (some v)) o ∧ o ≠ .un ∧ (isOwn o = true → ∀ p, v = .ref p → ¬ Ow env σ p)
def GO (B : Tb) (W : WX) (f : Env → Res O) : TE := fun σ H Q => ∃ F env, SR B F H σ env ∧ match f env with
  | .ok o env' => ∀ v F' H', Fr (Ow env σ) F H F' H' → SR B F' H' σ env' → (∀ b, Ow env' σ b → Ow env σ b) → OutR B F' H' σ env' v o → (isOwn o = true → ∀ p, v = .ref p → Ow env σ p ∨ Nz H p) → Q v H'
  | .exc c ds env' => ∀ F' H' dd, Fr (Ow env σ) F H F' H' → SR B F' H' σ env' → (∀ b, Ow env' σ b → Ow env σ b) → ExcR B F' H' c ds dd → W (.ref (B.ca c)) dd σ H'
  | .stuck => False
/-- a test's -/
def GT (B : Tb) (W : WX) (f : Env → Res D) : TT := fun σ H Q => ∃ F env, SR B F H σ env ∧ Tell B W σ (f env) F H env (fun d _ _ H' => ∃ b, d = .bl b ∧ Q b H')

/-- readings one after the other -/
def nest : List TE → L2.St → Hp → (List V → Hp → Prop) → Prop
  | [], _, H, k => k [] H
  | t :: ts, σ, H, k => t σ H fun x H1 => nest ts σ H1 fun xs H2 => k (x :: xs) H2
/-- what the operands are -/
def ArgsR (B : Tb) (F : Hp) (σ : L2.St) : Es → List V → List D → Prop
  | .nil, [], [] => True
  | .cons e es, v :: vs, d :: ds => (match isBor e with
    | some i => σ[i]? = some (some v)
    | none => Rep B F v d) ∧ ArgsR B F σ es vs ds
  | _, _, _ => False
theorem ArgsR.ex {B : Tb} {F F' : Hp} {σ : L2.St} (e : Ex F F') : ∀ {es : Es} {vs : List V} {ds : List D}, ArgsR B F σ es vs ds → ArgsR B F' σ es vs ds
  | .nil, [], [], _ => trivial
  | .cons e1 es, v :: vs, d :: ds, ⟨h, r⟩ => by
    refine ⟨?_, ArgsR.ex e r⟩
    cases q : isBor e1 with
    | some i => rw [q] at h; exact h
    | none => rw [q] at h; exact h.ex e
def GA (B : Tb) (W : WX) (G : Cfg) (e : E) : TE := match isBor e with
  | some i => tVar i
  | none => GE B W (evalE G e)
def GAs (B : Tb) (W : WX) (G : Cfg) : Es → List TE
  | .nil => []
  | .cons e es => GA B W G e :: GAs B W G es
/-- a list of operands -/
def GL (B : Tb) (W : WX) (f : Env → Res (List D)) (R : Hp → List V → List D → Prop) : L2.St → Hp → (List V → Hp → Prop) → Prop := fun σ H Q =>
  ∃ F env, SR B F H σ env ∧ Tell B W σ (f env) F H env (fun ds _ F' H' => ∀ vs, R F' vs ds → Q vs H')

section
variable {B : Tb} {W : WX} {G : Cfg} {σ : L2.St} {H : Hp}
theorem SR.there {F : Hp} {env : Env} (S : SR B F H σ env) {i : Nat} (h : getS env i ≠ .un) : ∃ v, σ[i]? = some (some v) := by
  have q := S.slot i
  cases e : getS env i with
  | un => exact absurd e h
  | v d => rw [e] at q; obtain ⟨v, e, _⟩ := q; exact ⟨v, e⟩
  | fl ds => rw [e] at q; obtain ⟨p, _, e, _⟩ := q; exact ⟨_, e⟩
  | fd ks ds => rw [e] at q; obtain ⟨p, _, e, _⟩ := q; exact ⟨_, e⟩
  | fi c fs => rw [e] at q; obtain ⟨p, _, _, e, _⟩ := q; exact ⟨_, e⟩
theorem nest_of : ∀ (es : Es) (F : Hp) (H : Hp) (env : Env) (Q : List V → Hp → Prop), SR B F H σ env → Tell B W σ (evalEs G es env) F H env (fun ds _ F' H' => ∀ vs, ArgsR B F' σ es vs ds → Q vs H') → nest (GAs B W G es) σ H Q
  | .nil, F, H, env, Q, S, t => (Tell.now (a := ([] : List D)) t S) [] trivial
  | .cons e es, F, H, env, Q, S, t => by
    rw [evalEs] at t
    have t1 := t.bind
    show GA B W G e σ H fun x H1 => nest (GAs B W G es) σ H1 fun xs H2 => Q (x :: xs) H2
    cases q : isBor e with
    | none =>
      have g : GA B W G e = GE B W (evalE G e) := by unfold GA; rw [q]
      rw [g]
      refine ⟨F, env, S, t1.mono fun d env1 F1 H1 f1 s1 o1 t2 v hv => ?_⟩
      refine nest_of es F1 H1 env1 _ s1 ((t2.bind).mono fun ds env2 F2 H2 f2 s2 o2 t3 vs hvs => ?_)
      refine (t3.now s2) (v :: vs) ⟨?_, hvs⟩
      rw [q]
      exact hv.ex f2.ext
    | some i =>
      have g : GA B W G e = tVar i := by unfold GA; rw [q]
      rw [g]
      have he : e = .bor i := by cases e <;> first | (cases q; done) | (cases q; rfl)
      subst he
      by_cases hu : getS env i = .un
      · exfalso
        have z : Tell B W σ (evalE G (.bor i) env) F H env _ := t1
        unfold evalE at z
        rw [hu] at z
        exact z
      · have ev : evalE G (.bor i) env = .ok .non env := by
          unfold evalE
          cases q2 : getS env i <;> first | exact absurd q2 hu | rfl
        obtain ⟨v, hv⟩ := S.there hu
        rw [ev] at t1
        refine ⟨v, hv, nest_of es F H env _ S (((t1.now S).bind).mono fun ds env2 F2 H2 f2 s2 o2 t3 vs hvs => ?_)⟩
        exact (t3.now s2) (v :: vs) ⟨by simpa [isBor] using hv, hvs⟩
end

/-! ### operations -/
/-- what is borrowed stands for its data as the heap is now -/
def BRep (B : Tb) (F H : Hp) (v : V) (d : D) : Prop :=
  Rep B F v d ∨ (∃ p vs ds, v = .ref p ∧ d = .lst ds ∧ H p = some (.lst vs) ∧ RepL B F vs ds) ∨
    ∃ p kvs ds, v = .ref p ∧ d = .dct (kvs.map fun q => keyD q.1) ds ∧ H p = some (.dK kvs) ∧ RepL B F (kvs.map (·.2)) ds
def BRepL (B : Tb) (F H : Hp) : List V → List D → Prop
  | [], [] => True
  | v :: vs, d :: ds => BRep B F H v d ∧ BRepL B F H vs ds
  | _, _ => False
/-- what an operation asks, of values -/
def opR (B : Tb) (o : Op) (vs : List V) (H : Hp) (Q : V → Hp → Prop) : Prop :=
  ∃ F ds d, Ex F H ∧ BRepL B F H vs ds ∧ sem o ds = some d ∧ ∀ v F' H', Fr (fun _ => False) F H F' H' → Ex F' H' → (∀ b o, H b = some o → H' b = some o) → (∀ b ps, F' b = some (.tbl ps) → F b = some (.tbl ps)) → Rep B F' v d → Q v H'
section
variable {B : Tb} {W : WX} {G : Cfg} {σ : L2.St} {F H : Hp} {env : Env}
theorem fill_rep (S : SR B F H σ env) : ∀ {es : Es} {vs : List V} {ds xs : List D}, ArgsR B F σ es vs ds → fillD es ds env = some xs → BRepL B F H vs xs
  | .nil, [], [], xs, _, e => by simp at e; subst e; trivial
  | .cons e1 es, v :: vs, d :: ds, xs, ⟨h, r⟩, e => by
    unfold fillD at e
    cases q : isBor e1 with
    | some i =>
      rw [q] at h e
      have sl := S.slot i
      have h : σ[i]? = some (some v) := h
      rw [h] at sl
      simp only at e
      cases z : frz (getS env i) with
      | none => rw [z] at e; cases e
      | some x =>
        rw [z] at e
        cases z2 : fillD es ds env with
        | none => rw [z2] at e; cases e
        | some ys =>
          rw [z2] at e
          cases e
          refine ⟨?_, fill_rep S r z2⟩
          cases g : getS env i with
          | un => rw [g] at z; cases z
          | v d =>
            rw [g] at z sl; cases z
            obtain ⟨w, e, r⟩ := sl
            cases e
            exact .inl r
          | fl ds =>
            rw [g] at z sl; cases z
            obtain ⟨p, us, e, h1, h2, r⟩ := sl
            cases e
            exact .inr (.inl ⟨p, us, ds, rfl, rfl, h2, r⟩)
          | fd ks ds =>
            rw [g] at z sl; cases z
            obtain ⟨p, us, e, h1, h2, hk, r⟩ := sl
            cases e
            subst hk
            exact .inr (.inr ⟨p, us, ds, rfl, rfl, h2, r⟩)
          | fi c fs => rw [g] at z; cases z
    | none =>
      rw [q] at h e
      simp only at e
      cases z2 : fillD es ds env with
      | none => rw [z2] at e; cases e
      | some ys =>
        rw [z2] at e
        cases e
        exact ⟨.inl h, fill_rep S r z2⟩
theorem op_of {o : Op} {es : Es} {Q : VK} (h : GE B W (evalE G (.op o es)) σ H Q) : nest (GAs B W G es) σ H (fun vs H1 => opR B o vs H1 Q) := by
  obtain ⟨F, env, S, t⟩ := h
  rw [evalE] at t
  refine nest_of es F H env _ S (t.bind.mono fun ds env1 F1 H1 f1 s1 o1 t1 vs hvs => ?_)
  cases z : fillD es ds env1 with
  | none => rw [z] at t1; exact t1.elim
  | some xs =>
    rw [z] at t1
    cases y : sem o xs with
    | none => simp only [y, lift] at t1; exact t1.elim
    | some d =>
      simp only [y, lift] at t1
      refine ⟨F1, xs, d, s1.ext, fill_rep s1 hvs z, y, fun v F' H' f ex' up nt r => ?_⟩
      refine t1 F' H' (f.mono fun _ z => z.elim) (s1.keep f ex' (s1.tab.ext up) fun b ps e => ?_) (fun _ z => z) v r
      exact s1.notab b ps (nt b ps e)
/-- a new thing is laid and frozen -/
theorem fr_new {p : Addr} {o : HO} (hp : H p = none) (ex : Ex F H) : Fr (fun _ => False) F H (upd F p o) (upd H p o) := by
  have fp : F p = none := by
    cases e : F p with
    | none => rfl
    | some u => rw [ex p u e] at hp; cases hp
  refine ⟨Ex.new fp, fun b h n => ?_, fun b u h _ _ => by rw [upd_ne (ne_of_none h hp)]; exact h, fun b h => nz_new hp h⟩
  by_cases e : b = p
  · subst e; exact .inr (nz_none hp)
  · rw [upd_ne e] at n; exact absurd h n
theorem ex_new {p : Addr} {o : HO} (ex : Ex F H) : Ex (upd F p o) (upd H p o) := fun b u h => by
  by_cases e : b = p
  · subst e; rw [upd_same] at h ⊢; exact h
  · rw [upd_ne e] at h ⊢; exact ex b u h
theorem up_new {p : Addr} {o : HO} (hp : H p = none) : ∀ b u, H b = some u → upd H p o b = some u := fun b u h => by rw [upd_ne (ne_of_none h hp)]; exact h
theorem nt_new {p : Addr} {o : HO} (ho : ∀ ps, o ≠ .tbl ps) : ∀ b ps, upd F p o b = some (.tbl ps) → F b = some (.tbl ps) := fun b ps h => by
  by_cases e : b = p
  · subst e; rw [upd_same] at h; cases h; exact absurd rfl (ho ps)
  · rw [upd_ne e] at h; exact h
end
end Py
end
section
set_option Elab.async false
set_option linter.all false
set_option maxRecDepth 100000
set_option maxHeartbeats 2000000
/-! Py over HandS: each operation by itself. -/
namespace Py
open PySem PySem.Spec PyProof.Rows L2

section
variable {B : Tb} {F H : Hp} {v : V} {d : D}
theorem brep_int {i : Int} (h : BRep B F H v (.int i)) : v = .int i := by
  rcases h with h | ⟨_, _, _, _, e, _⟩ | ⟨_, _, _, _, e, _⟩
  · cases h; rfl
  · cases e
  · cases e
theorem brep_bl {b : Bool} (h : BRep B F H v (.bl b)) : v = .bl b := by
  rcases h with h | ⟨_, _, _, _, e, _⟩ | ⟨_, _, _, _, e, _⟩
  · cases h; rfl
  · cases e
  · cases e
theorem brep_non (h : BRep B F H v .non) : v = .non := by
  rcases h with h | ⟨_, _, _, _, e, _⟩ | ⟨_, _, _, _, e, _⟩
  · cases h; rfl
  · cases e
  · cases e
theorem brep_str {s : List Nat} (h : BRep B F H v (.str s)) : ∃ x : Str, v = .str x ∧ x.cps.toList = s := by
  rcases h with h | ⟨_, _, _, _, e, _⟩ | ⟨_, _, _, _, e, _⟩
  · cases h; exact ⟨_, rfl, rfl⟩
  · cases e
  · cases e
theorem brep_tup {ds : List D} (ex : Ex F H) (h : BRep B F H v (.tup ds)) : ∃ a vs, v = .ref a ∧ SqT B.K F a vs ∧ SqT B.K H a vs ∧ RepL B F vs ds := by
  rcases h with h | ⟨_, _, _, _, e, _⟩ | ⟨_, _, _, _, e, _⟩
  · cases h with
    | tup q r => exact ⟨_, _, rfl, q, ex_t ex q, r⟩
  · cases e
  · cases e
theorem brep_lst {ds : List D} (ex : Ex F H) (h : BRep B F H v (.lst ds)) : ∃ a vs, v = .ref a ∧ SqL B.K H a vs ∧ RepL B F vs ds := by
  rcases h with h | ⟨p, vs, xs, e1, e, h1, h2⟩ | ⟨_, _, _, _, e, _⟩
  · cases h with
    | lst q r => exact ⟨_, _, rfl, ex_l ex q, r⟩
  · cases e; exact ⟨p, vs, e1, .inl (.inl h1), h2⟩
  · cases e
theorem brep_dct {ks ds : List D} (ex : Ex F H) (h : BRep B F H v (.dct ks ds)) : ∃ a kvs, v = .ref a ∧ H a = some (.dK kvs) ∧ ks = kvs.map (fun q => keyD q.1) ∧ RepL B F (kvs.map (·.2)) ds := by
  rcases h with h | ⟨_, _, _, _, e, _⟩ | ⟨p, kvs, xs, e1, e, h1, h2⟩
  · cases h with
    | dct q r => exact ⟨_, _, rfl, ex _ _ q, rfl, r⟩
  · cases e
  · cases e; exact ⟨p, kvs, e1, h1, rfl, h2⟩
theorem brepL1 {vs : List V} {d : D} (h : BRepL B F H vs [d]) : ∃ v, vs = [v] ∧ BRep B F H v d := by
  match vs, h with
  | [v], ⟨h, _⟩ => exact ⟨v, rfl, h⟩
theorem brepL2 {vs : List V} {d e : D} (h : BRepL B F H vs [d, e]) : ∃ v w, vs = [v, w] ∧ BRep B F H v d ∧ BRep B F H w e := by
  match vs, h with
  | [v, w], ⟨h, h2, _⟩ => exact ⟨v, w, rfl, h, h2⟩
theorem brepL_len : ∀ {vs : List V} {ds : List D}, BRepL B F H vs ds → vs.length = ds.length
  | [], [], _ => rfl
  | _ :: _, _ :: _, ⟨_, h⟩ => by rw [List.length_cons, List.length_cons, brepL_len h]

/-- what is wanted of an operation's answer -/
def Wants (B : Tb) (F H : Hp) (d : D) (Q : VK) : Prop := ∀ v F' H', Fr (fun _ => False) F H F' H' → Ex F' H' → (∀ b o, H b = some o → H' b = some o) → (∀ b ps, F' b = some (.tbl ps) → F b = some (.tbl ps)) → Rep B F' v d → Q v H'
theorem Wants.same {Q : VK} (q : Wants B F H d Q) (ex : Ex F H) (r : Rep B F v d) : Q v H := q v F H Fr.refl ex (fun _ _ h => h) (fun _ _ h => h) r
theorem Wants.newL {Q : VK} {vs : List V} {ds : List D} (q : Wants B F H (.lst ds) Q) (ex : Ex F H) (r : RepL B F vs ds) : ∀ p, H p = none → Q (.ref p) (upd H p (.lst vs)) := fun p hp =>
  q (.ref p) (upd F p (.lst vs)) (upd H p (.lst vs)) (fr_new hp ex) (ex_new ex) (up_new hp) (nt_new fun _ z => nomatch z) (.lst (.inl (.inl upd_same)) (r.ex (fr_new (o := .lst vs) hp ex).ext))
theorem Wants.newT {Q : VK} {vs : List V} {ds : List D} (q : Wants B F H (.tup ds) Q) (ex : Ex F H) (r : RepL B F vs ds) : ∀ p, H p = none → Q (.ref p) (upd H p (.tup vs)) := fun p hp =>
  q (.ref p) (upd F p (.tup vs)) (upd H p (.tup vs)) (fr_new hp ex) (ex_new ex) (up_new hp) (nt_new fun _ z => nomatch z) (.tup (.inl (.inl upd_same)) (r.ex (fr_new (o := .tup vs) hp ex).ext))
theorem opR_iff {o : Op} {vs : List V} {Q : VK} : opR B o vs H Q ↔ ∃ F ds d, Ex F H ∧ BRepL B F H vs ds ∧ sem o ds = some d ∧ Wants B F H d Q := Iff.rfl
end

/-- where one stands: no exception is handled, there is room, no built-in name is taken -/
def bnames : List Str := ["len", "int", "abs", "str", "tuple", "list", "sum", "all", "any", "sorted", "min", "max", "isinstance", "range", "enumerate", "zip", "bool", "dict", "repr", "set"]
def tyName : Ty → Option String
  | .int => some "int"
  | .bool => some "bool"
  | .str => some "str"
  | .tuple => some "tuple"
  | .list => some "list"
  | .dict => some "dict"
  | .own _ => none
/-- what the written part says of a class of data -/
structure ClsF (B : Tb) (c : Nat) : Prop where
  cl : Cls B.K (B.ca c)
  ha : PySem.W.findIn B.K (.ref (B.ca c)) "__class__" = some (some (.builtin "object.__class__"))
  hm : PySem.W.mroIn B.K (B.ca c) (.type "object") = some true
  ob : ∀ t n, tyName t = some n → PySem.W.kitOne B.K (.ref (B.ca c)) (.type n) = some false
  bo : ∀ m ∈ ["NoneType", "bool", "int", "str", "tuple", "list", "dict"], PySem.W.kitOne B.K (.type m) (.ref (B.ca c)) = some false
  oo : ∀ c' ∈ B.cls, PySem.W.kitOne B.K (.ref (B.ca c)) (.ref (B.ca c')) = some (decide (c = c'))
structure XOk (B : Tb) (X : Cx) : Prop where
  K : X.K = B.K
  calm : X.calm = true
  room : Room 0 X.A
  nd : X.N.Nodup
  bl : ∀ x ∈ bnames, X.mg x = none
  cls : ∀ c ∈ B.cls, ClsF B c
  cgt : B.cls ≠ [] → PySem.W.specialIn B.K (.builtin "object.__class__") "__get__" = some (some (.builtin "getset_descriptor.__get__")) ∧ PySem.W.takesIn B.K (.builtin "object.__class__") = some true

section
variable {B : Tb} {X : Cx}
theorem str_rep {F : Hp} (x : Str) {s : List Nat} (h : x.cps.toList = s) : Rep B F (.str x) (.str s) := by subst h; exact .str x
theorem str_app (x y : Str) : (x ++ y).cps.toList = x.cps.toList ++ y.cps.toList := by
  show (x.cps ++ y.cps).toList = _
  simp
theorem str_len (x : Str) : x.length = x.cps.toList.length := by
  show x.cps.size = _
  simp
theorem lineEq : sizeLine = line := sizeLine_eq

/-- two operands' answers, an operation -/
abbrev R2o (B : Tb) (o : Op) : R2 := fun x y H Q => opR B o [x, y] H Q
theorem sInt2_inv {c : Int → Int → Bool} {f : Int → Int → D} {ds : List D} {d : D} (e : sInt2 c f ds = some d) : ∃ i j, ds = [.int i, .int j] ∧ c i j = true ∧ d = f i j := by
  unfold sInt2 at e
  split at e
  · rename_i i j
    split at e
    · rename_i h
      cases e
      exact ⟨i, j, rfl, h, rfl⟩
    · cases e
  · cases e
theorem sInt1_inv {c : Int → Bool} {f : Int → D} {ds : List D} {d : D} (e : sInt1 c f ds = some d) : ∃ i, ds = [.int i] ∧ c i = true ∧ d = f i := by
  unfold sInt1 at e
  split at e
  · rename_i i
    split at e
    · rename_i h
      cases e
      exact ⟨i, rfl, h, rfl⟩
    · cases e
  · cases e
theorem sLst1_inv {f : List D → Option D} {ds : List D} {d : D} (e : sLst1 f ds = some d) : ∃ xs, ds = [.lst xs] ∧ f xs = some d := by
  unfold sLst1 at e
  split at e
  · exact ⟨_, rfl, e⟩
  · cases e
theorem ok_int2 {f : Value → Value → Sem Value} {o : Op} {c : Int → Int → Bool} {k : Int → Int → D} (hs : ∀ ds, sem o ds = sInt2 c k ds) (g : Int → Int → V) (C : Int → Int → Prop) (h : OpR X f (rI C g))
    (hc : ∀ i j, c i j = true → C i j) (hr : ∀ F i j, Rep B F (g i j) (k i j)) : OpR X f (R2o B o) := by
  intro pins s σ H x y v u Q I rx ry ⟨F, ds, d, ex, br, e, q⟩
  rw [hs] at e
  obtain ⟨i, j, rfl, hc1, rfl⟩ := sInt2_inv e
  obtain ⟨x', y', e', h1, h2⟩ := brepL2 br
  cases e'
  exact h pins s σ H x y v u Q I rx ry ⟨i, j, brep_int h1, brep_int h2, hc i j hc1, Wants.same q ex (hr F i j)⟩
theorem rI0_rI {f : Value → Value → Sem Value} {g : Int → Int → V} (h : OpR X f (rI0 g)) : OpR X f (rI (fun _ _ => True) g) := fun pins s σ H x y v u Q I rx ry ⟨i, j, e1, e2, _, q⟩ => h pins s σ H x y v u Q I rx ry ⟨i, j, e1, e2, q⟩
theorem ok_sub : OpR X (binaryOp .Sub) (R2o B .sub) := ok_int2 (fun _ => rfl) _ _ (rI0_rI op_sub) (fun _ _ _ => trivial) fun _ _ _ => .int _
theorem ok_mul : OpR X (binaryOp .Mult) (R2o B .mul) := ok_int2 (fun _ => rfl) _ _ op_mul (fun i j h => by
  unfold mulOk at h
  simp only [Bool.or_eq_true, Bool.and_eq_true, decide_eq_true_eq] at h
  exact h) fun _ _ _ => .int _
theorem ok_fdiv : OpR X (binaryOp .FloorDiv) (R2o B .fdiv) := ok_int2 (fun _ => rfl) _ _ op_fdiv (fun i j h => by
  simp only [Bool.and_eq_true, decide_eq_true_eq] at h
  exact h) fun _ _ _ => .int _
theorem ok_mod : OpR X (binaryOp .Mod) (R2o B .mod) := ok_int2 (fun _ => rfl) _ _ op_mod (fun i j h => by simpa only [decide_eq_true_eq] using h) fun _ _ _ => .int _
theorem ok_pow : OpR X (binaryOp .Pow) (R2o B .pow) := ok_int2 (fun _ => rfl) _ _ op_pow (fun i j h => by
  simp only [Bool.and_eq_true, decide_eq_true_eq] at h
  exact ⟨h.1.1, by omega, h.2⟩) fun _ _ _ => .int _
theorem ok_lt : OpR X (compareOp .Lt) (R2o B .lt) := ok_int2 (fun _ => rfl) _ _ (rI0_rI op_lt) (fun _ _ _ => trivial) fun _ _ _ => .bl _
theorem ok_le : OpR X (compareOp .LtE) (R2o B .le) := ok_int2 (fun _ => rfl) _ _ (rI0_rI op_le) (fun _ _ _ => trivial) fun _ _ _ => .bl _
theorem ok_gt : OpR X (compareOp .Gt) (R2o B .gt) := ok_int2 (fun _ => rfl) _ _ (rI0_rI op_gt) (fun _ _ _ => trivial) fun _ _ _ => .bl _
theorem ok_ge : OpR X (compareOp .GtE) (R2o B .ge) := ok_int2 (fun _ => rfl) _ _ (rI0_rI op_ge) (fun _ _ _ => trivial) fun _ _ _ => .bl _
/-- two lists -/
theorem op_catR : OpR X (binaryOp .Add) (fun x y H Q => ∃ l b xs zs, x = .ref l ∧ y = .ref b ∧ SqL X.K H l xs ∧ SqL X.K H b zs ∧ xs.length + zs.length ≤ sizeLine ∧ ∀ p, H p = none → Q (.ref p) (upd H p (.lst (xs ++ zs)))) := by
  intro pins s σ H x y v u Q I rx ry h
  obtain ⟨l, b, xs, zs, rfl, rfl, hH, hB, hz, q⟩ := h
  cases rx
  cases ry
  obtain ⟨its, r, ⟨⟨c1, d1, t1, sl1⟩, n, e, hc1, hd1, ht1⟩, z⟩ := I.list hH
  obtain ⟨its2, r2, ⟨⟨c2, d2, t2, sl2⟩, n2, e2, hc2, hd2, ht2⟩, z2⟩ := I.list hB
  simp only at hc1 hd1 ht1 hc2 hd2 ht2
  subst hc1 hd1 ht1 hc2 hd2 ht2
  have hl := r.length
  have hl2 := r2.length
  refine PySem.concat_meets ⟨_, e, rfl⟩ ⟨_, e2, rfl⟩ PySem.noFill_list_add PySem.seq_list_add PySem.F.slot_list_add PySem.F.entry_list_add (PySem.F.args_list_add_2 _ _) (PyProof.Rows.list_addW l b its.toArray its2.toArray n n2 none none sl1 sl2 (by rw [List.size_toArray, List.size_toArray]; omega)) ⟨e, e2, ?_⟩
  have ea : its.toArray ++ its2.toArray = (its ++ its2).toArray := by simp
  rw [ea]
  exact ⟨.ref _, _, I.lnew (t' := s.toks) (r.append r2) (by rw [List.length_append]; omega), rfl, q _ I.fresh⟩
theorem ok_add (hK : X.K = B.K) : OpR X (binaryOp .Add) (R2o B .add) := by
  intro pins s σ H x y v u Q I rx ry ⟨F, ds, d, ex, br, e, q⟩
  have e : sAdd ds = some d := e
  unfold sAdd at e
  split at e
  · obtain ⟨x', y', e', h1, h2⟩ := brepL2 br
    cases e'; cases e
    exact op_add pins s σ H x y v u Q I rx ry ⟨_, _, brep_int h1, brep_int h2, Wants.same q ex (.int _)⟩
  · split at e
    · obtain ⟨x', y', e', h1, h2⟩ := brepL2 br
      cases e'; cases e
      obtain ⟨a, rfl, ha⟩ := brep_str h1
      obtain ⟨b, rfl, hb⟩ := brep_str h2
      refine op_add_str pins s σ H _ _ v u Q I rx ry ⟨a, b, rfl, rfl, ?_, Wants.same q ex (str_rep _ ?_)⟩
      · rw [str_len, str_len, ha, hb, lineEq]; assumption
      · rw [str_app, ha, hb]
    · cases e
  · split at e
    · obtain ⟨x', y', e', h1, h2⟩ := brepL2 br
      cases e'; cases e
      obtain ⟨a, vs, rfl, ha, ra⟩ := brep_lst ex h1
      obtain ⟨b, ws, rfl, hb, rb⟩ := brep_lst ex h2
      refine op_catR pins s σ H _ _ v u Q I rx ry ⟨a, b, vs, ws, rfl, rfl, by rw [hK]; exact ha, by rw [hK]; exact hb, ?_, Wants.newL q ex (ra.append rb)⟩
      rw [ra.length, rb.length, lineEq]; assumption
    · cases e
  · split at e
    · obtain ⟨x', y', e', h1, h2⟩ := brepL2 br
      cases e'; cases e
      obtain ⟨a, vs, rfl, fa, ha, ra⟩ := brep_tup ex h1
      obtain ⟨b, ws, rfl, fb, hb, rb⟩ := brep_tup ex h2
      refine op_catA pins s σ H _ _ v u Q I rx ry ⟨a, b, vs, ws, rfl, rfl, by rw [hK]; exact ha, by rw [hK]; exact hb, ?_, fun e => ?_, fun _ e => ?_, fun _ _ => Wants.newT q ex (ra.append rb)⟩
      · rw [ra.length, rb.length, lineEq]; assumption
      · subst e; cases ra; exact Wants.same q ex (.tup fb rb)
      · subst e; cases rb; exact Wants.same q ex (by rw [List.append_nil]; exact .tup fa ra)
    · cases e
  · cases e

/-! ### equality -/
mutual
def toPy : D → PyData
  | .non => .none
  | .bl b => .bool b
  | .int i => .int i
  | .str s => .str ⟨s.toArray⟩
  | .tup ds => .tuple (toPys ds)
  | .lst ds => .list (toPys ds)
  | .dct _ _ => .none
  | .ins _ _ => .none
def toPys : List D → List PyData
  | [] => []
  | d :: ds => toPy d :: toPys ds
end
mutual
theorem eqv_py : ∀ d e : D, plain d = true → plain e = true → PyData.eqv (toPy d) (toPy e) = eqv d e
  | .non, e, _, h => by cases e <;> simp_all [toPy, PyData.eqv, eqv, plain]
  | .bl b, e, _, h => by cases e <;> simp_all [toPy, PyData.eqv, eqv, plain]
  | .int i, e, _, h => by cases e <;> simp_all [toPy, PyData.eqv, eqv, plain]
  | .str s, e, _, h => by
    cases e <;> simp_all [toPy, PyData.eqv, eqv, plain]
    rename_i t
    rw [Bool.eq_iff_iff]
    simp
  | .tup ds, e, h1, h => by
    cases e <;> simp_all [toPy, PyData.eqv, eqv, plain]
    exact eqvs_py _ _ h1 h
  | .lst ds, e, h1, h => by
    cases e <;> simp_all [toPy, PyData.eqv, eqv, plain]
    exact eqvs_py _ _ h1 h
  | .dct _ _, e, h1, h => by simp [plain] at h1
  | .ins _ _, e, h1, h => by simp [plain] at h1
theorem eqvs_py : ∀ ds es : List D, plains ds = true → plains es = true → PyData.eqvAll (toPys ds) (toPys es) = eqvs ds es
  | [], [], _, _ => by simp [toPys, PyData.eqvAll, eqvs]
  | [], _ :: _, _, _ => by simp [toPys, PyData.eqvAll, eqvs]
  | _ :: _, [], _, _ => by simp [toPys, PyData.eqvAll, eqvs]
  | d :: ds, e :: es, h1, h2 => by
    simp only [plains, Bool.and_eq_true] at h1 h2
    simp only [toPys, PyData.eqvAll, eqvs, eqv_py d e h1.1 h2.1, eqvs_py ds es h1.2 h2.2]
end
mutual
theorem lay_py : ∀ d : D, plain d = true → (toPy d).canLay0 = true ∧ (toPy d).depth = depth d
  | .non, _ => by simp [toPy, PyData.canLay0, PyData.depth, depth]
  | .bl b, _ => by simp [toPy, PyData.canLay0, PyData.depth, depth]
  | .int i, _ => by simp [toPy, PyData.canLay0, PyData.depth, depth]
  | .str s, h => by
    simp only [plain] at h
    simp only [toPy, PyData.canLay0, PyData.depth, depth, PyData.strOk, and_true]
    simpa [List.all_eq_true] using h
  | .tup ds, h => by
    simp only [plain] at h
    obtain ⟨h1, h2⟩ := lays_py ds h
    simp [toPy, PyData.canLay0, PyData.depth, depth, h1, h2]
  | .lst ds, h => by
    simp only [plain] at h
    obtain ⟨h1, h2⟩ := lays_py ds h
    simp [toPy, PyData.canLay0, PyData.depth, depth, h1, h2]
  | .dct _ _, h => by simp [plain] at h
  | .ins _ _, h => by simp [plain] at h
theorem lays_py : ∀ ds : List D, plains ds = true → PyData.canLayAll0 (toPys ds) = true ∧ PyData.depthAll (toPys ds) = depths ds
  | [], _ => by simp [toPys, PyData.canLayAll0, PyData.depthAll, depths]
  | d :: ds, h => by
    simp only [plains, Bool.and_eq_true] at h
    obtain ⟨h1, h2⟩ := lay_py d h.1
    obtain ⟨h3, h4⟩ := lays_py ds h.2
    simp only [toPys, PyData.canLayAll0, PyData.depthAll, depths, h1, h2, h3, h4, Bool.and_self, true_and]
end
mutual
theorem dp_of {F : Hp} : ∀ {v : V} {d : D}, Rep B F v d → plain d = true → Dp B.K F v (toPy d)
  | _, _, .non, _ => by simp only [toPy]; exact .non
  | _, _, .bl b, _ => by simp only [toPy]; exact .bl b
  | _, _, .int i, _ => by simp only [toPy]; exact .int i
  | _, _, .str x, _ => by
    simp only [toPy]
    have e : (⟨x.cps.toList.toArray⟩ : Str) = x := by cases x; simp
    rw [e]
    exact .str x
  | _, _, .tup h r, p => by
    simp only [plain] at p
    simp only [toPy]
    exact .tup h (dps_of r p)
  | _, _, .lst h r, p => by
    simp only [plain] at p
    simp only [toPy]
    exact .lst h (dps_of r p)
  | _, _, .dct h r, p => by simp [plain] at p
  | _, _, .ins m h n r, p => by simp [plain] at p
theorem dps_of {F : Hp} : ∀ {vs : List V} {ds : List D}, RepL B F vs ds → plains ds = true → DpAll B.K F vs (toPys ds)
  | _, _, .nil, _ => by simp only [toPys]; exact .nil
  | _, _, .cons h r, p => by
    simp only [plains, Bool.and_eq_true] at p
    simp only [toPys]
    exact .cons (dp_of h p.1) (dps_of r p.2)
end
mutual
theorem Dp.ex {K : PySem.W.Frag} {H H' : Hp} (e : Ex H H') : ∀ {v : V} {d : PyData}, Dp K H v d → Dp K H' v d
  | _, _, .non => .non
  | _, _, .bl b => .bl b
  | _, _, .int i => .int i
  | _, _, .str x => .str x
  | _, _, .lst h r => .lst (ex_l e h) (DpAll.ex e r)
  | _, _, .tup h r => .tup (ex_t e h) (DpAll.ex e r)
theorem DpAll.ex {K : PySem.W.Frag} {H H' : Hp} (e : Ex H H') : ∀ {vs : List V} {ds : List PyData}, DpAll K H vs ds → DpAll K H' vs ds
  | _, _, .nil => .nil
  | _, _, .cons h r => .cons (Dp.ex e h) (DpAll.ex e r)
end
theorem dp_brep {F H : Hp} {v : V} {d : D} (ex : Ex F H) (h : BRep B F H v d) (p : plain d = true) : Dp B.K H v (toPy d) := by
  rcases h with h | ⟨q, vs, ds, rfl, rfl, h1, h2⟩ | ⟨_, _, _, _, rfl, _⟩
  · exact Dp.ex ex (dp_of h p)
  · simp only [plain] at p
    simp only [toPy]
    exact .lst (.inl (.inl h1)) (DpAll.ex ex (dps_of h2 p))
  · simp [plain] at p
theorem sEq_inv {n : Bool} {ds : List D} {d : D} (e : sEq n ds = some d) : ∃ a b, ds = [a, b] ∧ plain a = true ∧ plain b = true ∧ depth a ≤ 64 ∧ depth b ≤ 64 ∧ d = .bl (if n then !eqv a b else eqv a b) := by
  unfold sEq at e
  split at e
  · split at e
    · rename_i h
      cases e
      unfold eqOk at h
      simp only [Bool.and_eq_true, decide_eq_true_eq] at h
      exact ⟨_, _, rfl, h.1.1.1, h.1.1.2, h.1.2, h.2, rfl⟩
    · cases e
  · cases e
theorem shaped_py {d : D} (p : plain d = true) (h : depth d ≤ 64) : SeqAt.shaped (toPy d) = true := by
  obtain ⟨h1, h2⟩ := lay_py d p
  unfold SeqAt.shaped
  rw [h1, h2]
  simpa using h
theorem ok_eq (O : XOk B X) : OpR X (compareOp .Eq) (R2o B .eq) := by
  intro pins s σ H x y v u Q I rx ry ⟨F, ds, d, ex, br, e, q⟩
  obtain ⟨a, b, rfl, p1, p2, d1, d2, rfl⟩ := sEq_inv e
  obtain ⟨x', y', e', h1, h2⟩ := brepL2 br
  cases e'
  refine op_eqD O.room.units pins s σ H _ _ v u Q I rx ry ⟨toPy a, toPy b, ?_, ?_, shaped_py p1 d1, shaped_py p2 d2, ?_⟩
  · rw [O.K]; exact dp_brep ex h1 p1
  · rw [O.K]; exact dp_brep ex h2 p2
  · rw [eqv_py a b p1 p2]
    exact Wants.same q ex (.bl _)
theorem ok_ne (O : XOk B X) : OpR X (compareOp .NotEq) (R2o B .ne) := by
  intro pins s σ H x y v u Q I rx ry ⟨F, ds, d, ex, br, e, q⟩
  obtain ⟨a, b, rfl, p1, p2, d1, d2, rfl⟩ := sEq_inv e
  obtain ⟨x', y', e', h1, h2⟩ := brepL2 br
  cases e'
  refine op_neD O.room.units pins s σ H _ _ v u Q I rx ry ⟨toPy a, toPy b, ?_, ?_, shaped_py p1 d1, shaped_py p2 d2, ?_⟩
  · rw [O.K]; exact dp_brep ex h1 p1
  · rw [O.K]; exact dp_brep ex h2 p2
  · rw [eqv_py a b p1 p2]
    exact Wants.same q ex (.bl _)
theorem non_iff {F H : Hp} {v : V} {d : D} (h : BRep B F H v d) : decide (v = .non) = isNon d := by
  rcases h with h | ⟨p, vs, ds, rfl, rfl, _, _⟩ | ⟨p, vs, ds, rfl, rfl, _, _⟩
  · cases h <;> simp [isNon]
  · simp [isNon]
  · simp [isNon]
theorem sIsN_inv {n : Bool} {ds : List D} {d : D} (e : sIsN n ds = some d) : ∃ a, ds = [a, .non] ∧ d = .bl (if n then !isNon a else isNon a) := by
  unfold sIsN at e
  split at e
  · cases e; exact ⟨_, rfl, rfl⟩
  · cases e
theorem ok_isN : OpR X (compareOp .Is) (R2o B .isN) := by
  intro pins s σ H x y v u Q I rx ry ⟨F, ds, d, ex, br, e, q⟩
  obtain ⟨a, rfl, rfl⟩ := sIsN_inv e
  obtain ⟨x', y', e', h1, h2⟩ := brepL2 br
  cases e'
  refine op_isN pins s σ H _ _ v u Q I rx ry ⟨brep_non h2, ?_⟩
  rw [non_iff h1]
  exact Wants.same q ex (.bl _)
theorem ok_notN : OpR X (compareOp .IsNot) (R2o B .notN) := by
  intro pins s σ H x y v u Q I rx ry ⟨F, ds, d, ex, br, e, q⟩
  obtain ⟨a, rfl, rfl⟩ := sIsN_inv e
  obtain ⟨x', y', e', h1, h2⟩ := brepL2 br
  cases e'
  refine op_notN pins s σ H _ _ v u Q I rx ry ⟨brep_non h2, ?_⟩
  rw [non_iff h1]
  exact Wants.same q ex (.bl _)

/-! ### places, slices -/
theorem ixD_eq (n : Nat) (i : Int) : ixD n i = ixN n i := rfl
theorem atI_rep {F : Hp} {vs : List V} {ds : List D} {i : Int} {d : D} (r : RepL B F vs ds) (h : atD ds i = some d) : ∃ v, atI vs i = some v ∧ Rep B F v d := by
  unfold atD at h
  cases e : ixD ds.length i with
  | none => rw [e] at h; cases h
  | some j =>
    rw [e] at h
    obtain ⟨v, h1, h2⟩ := r.getD (show ds[j]? = some d from h)
    refine ⟨v, ?_, h2⟩
    unfold atI
    rw [r.length, ← ixD_eq, e]
    exact h1
theorem ok_idx (O : XOk B X) : IxR X (R2o B .idx) := by
  intro value slice pins s σ H x y v u Q I rx ry ⟨F, ds, d, ex, br, e, q⟩ hs
  have e : sIdx ds = some d := e
  unfold sIdx at e
  split at e
  · obtain ⟨x', y', e', h1, h2⟩ := brepL2 br
    cases e'
    obtain ⟨a, vs, rfl, ha, ra⟩ := brep_lst ex h1
    obtain ⟨w, hw, rw'⟩ := atI_rep ra e
    exact ix_list value slice pins s σ H _ _ v u Q I rx ry ⟨a, vs, _, w, rfl, brep_int h2, by rw [O.K]; exact ha, hw, Wants.same q ex rw'⟩ hs
  · obtain ⟨x', y', e', h1, h2⟩ := brepL2 br
    cases e'
    obtain ⟨a, vs, rfl, fa, ha, ra⟩ := brep_tup ex h1
    obtain ⟨w, hw, rw'⟩ := atI_rep ra e
    exact ix_tup value slice pins s σ H _ _ v u Q I rx ry ⟨a, vs, _, w, rfl, brep_int h2, by rw [O.K]; exact ha, hw, Wants.same q ex rw'⟩ hs
  · split at e
    · rename_i s' i _ hl
      obtain ⟨x', y', e', h1, h2⟩ := brepL2 br
      cases e'
      obtain ⟨z, rfl, hz⟩ := brep_str h1
      cases hc : atD s' i with
      | none => rw [hc] at e; cases e
      | some c =>
        rw [hc] at e
        cases e
        refine ix_str value slice pins s σ H _ _ v u Q I rx ry ⟨z, i, c, rfl, brep_int h2, by rw [str_len, hz, lineEq]; exact hl, ?_, Wants.same q ex (str_rep _ (by simp))⟩ hs
        rw [hz]
        exact hc
    · cases e
  · cases e
theorem six_eq (n d : Nat) (o : Option Int) : sixD n d o = HT.sIx n d o := by
  cases o with
  | none => rfl
  | some v => rfl
theorem cut_rep {F : Hp} {vs : List V} {ds : List D} {lo hi : Option Int} (r : RepL B F vs ds) : RepL B F (cutV vs lo hi) (cut ds lo hi) := by
  unfold cutV cut
  rw [r.length, six_eq, six_eq]
  exact (r.drop _).take _
end
end Py
end
section
set_option Elab.async false
set_option linter.all false
set_option maxRecDepth 100000
set_option maxHeartbeats 2000000
/-! Py over HandS: built-in calls, and every operation by its syntax. -/
namespace Py
open PySem PySem.Spec PyProof.Rows L2

section
variable {B : Tb} {X : Cx}
abbrev R1o (B : Tb) (o : Op) : List V → Hp → VK → Prop := fun xs H Q => opR B o xs H Q
theorem ok_neg : UnR X (unaryOp .USub) (fun x H Q => opR B .neg [x] H Q) := by
  intro pins s σ H x v Q I rx ⟨F, ds, d, ex, br, e, q⟩
  obtain ⟨i, rfl, _, rfl⟩ := sInt1_inv e
  obtain ⟨x', e', h1⟩ := brepL1 br
  cases e'
  exact un_neg pins s σ H _ v Q I rx ⟨i, brep_int h1, Wants.same q ex (.int _)⟩
theorem ok_len (O : XOk B X) : CallR X (.builtin "len") (R1o B .len) := by
  intro pins s σ H xs us Q I r ⟨F, ds, d, ex, br, e, q⟩
  have e : sLen ds = some d := e
  unfold sLen at e
  split at e
  · cases e
    obtain ⟨x, rfl, h1⟩ := brepL1 br
    obtain ⟨a, vs, rfl, ha, ra⟩ := brep_lst ex h1
    refine call_len_seq pins s σ H _ us Q I r ⟨a, vs, rfl, .inl (by rw [O.K]; exact ha), ?_⟩
    rw [ra.length]
    exact Wants.same q ex (.int _)
  · cases e
    obtain ⟨x, rfl, h1⟩ := brepL1 br
    obtain ⟨a, vs, rfl, fa, ha, ra⟩ := brep_tup ex h1
    refine call_len_seq pins s σ H _ us Q I r ⟨a, vs, rfl, .inr (by rw [O.K]; exact ha), ?_⟩
    rw [ra.length]
    exact Wants.same q ex (.int _)
  · split at e
    · rename_i hl
      cases e
      obtain ⟨x, rfl, h1⟩ := brepL1 br
      obtain ⟨z, rfl, hz⟩ := brep_str h1
      refine call_len_str pins s σ H _ us Q I r ⟨z, rfl, by rw [str_len, hz, lineEq]; exact hl, ?_⟩
      rw [str_len, hz]
      exact Wants.same q ex (.int _)
    · cases e
  · cases e
theorem ok_int : CallR X (.type "int") (R1o B .int) := by
  intro pins s σ H xs us Q I r ⟨F, ds, d, ex, br, e, q⟩
  have e : sInt ds = some d := e
  unfold sInt at e
  split at e
  · cases e
    obtain ⟨x, rfl, h1⟩ := brepL1 br
    exact call_int1 pins s σ H _ us Q I r (.inl ⟨_, by rw [brep_int h1], Wants.same q ex (.int _)⟩)
  · cases e
    obtain ⟨x, rfl, h1⟩ := brepL1 br
    exact call_int1 pins s σ H _ us Q I r (.inr ⟨_, by rw [brep_bl h1], Wants.same q ex (.int _)⟩)
  · cases e
theorem ok_abs : CallR X (.builtin "abs") (R1o B .abs) := by
  intro pins s σ H xs us Q I r ⟨F, ds, d, ex, br, e, q⟩
  obtain ⟨i, rfl, _, rfl⟩ := sInt1_inv e
  obtain ⟨x, rfl, h1⟩ := brepL1 br
  exact call_abs pins s σ H _ us Q I r ⟨i, by rw [brep_int h1], Wants.same q ex (.int _)⟩
theorem digits_eq (i : Int) : (toString i : Str).cps.toList = digits i := by
  show (Str.ofString (toString i)).cps.toList = _
  rw [Str.ofString_eq_toList]
  simp [digits]
theorem ok_str : CallR X (.type "str") (R1o B .str) := by
  intro pins s σ H xs us Q I r ⟨F, ds, d, ex, br, e, q⟩
  obtain ⟨i, rfl, hc, rfl⟩ := sInt1_inv e
  obtain ⟨x, rfl, h1⟩ := brepL1 br
  refine call_str_int pins s σ H _ us Q I r ⟨i, by rw [brep_int h1], by simpa using hc, Wants.same q ex (str_rep _ (digits_eq i))⟩
theorem ints_rep {F : Hp} : ∀ {vs : List V} {ds : List D} {ns : List Int}, RepL B F vs ds → asInts ds = some ns → vs = ns.map V.int
  | _, [], ns, .nil, e => by simp only [asInts] at e; cases e; rfl
  | _, d :: ds, ns, .cons h r, e => by
    cases d <;> simp only [asInts] at e <;> try (cases e; done)
    cases q : asInts ds with
    | none => rw [q] at e; cases e
    | some ms =>
      rw [q] at e
      cases e
      cases h
      rw [ints_rep r q]
      rfl
theorem bools_rep {F : Hp} : ∀ {vs : List V} {ds : List D} {ns : List Bool}, RepL B F vs ds → asBools ds = some ns → vs = ns.map V.bl
  | _, [], ns, .nil, e => by simp only [asBools] at e; cases e; rfl
  | _, d :: ds, ns, .cons h r, e => by
    cases d <;> simp only [asBools] at e <;> try (cases e; done)
    cases q : asBools ds with
    | none => rw [q] at e; cases e
    | some ms =>
      rw [q] at e
      cases e
      cases h
      rw [bools_rep r q]
      rfl
theorem ok_sum (O : XOk B X) : CallR X (.builtin "sum") (R1o B .sum) := by
  intro pins s σ H xs us Q I r ⟨F, ds, d, ex, br, e, q⟩
  obtain ⟨ys, rfl, e2⟩ := sLst1_inv e
  obtain ⟨x, rfl, h1⟩ := brepL1 br
  obtain ⟨a, vs, rfl, ha, ra⟩ := brep_lst ex h1
  cases z : asInts ys with
  | none => rw [z] at e2; cases e2
  | some ns =>
    rw [z] at e2
    cases e2
    have h := ints_rep ra z
    subst h
    exact cr_sum O.calm pins s σ H _ us Q I r ⟨a, ns, rfl, by rw [O.K]; exact ha, Wants.same q ex (.int _)⟩
theorem ok_all (O : XOk B X) : CallR X (.builtin "all") (R1o B .all) := by
  intro pins s σ H xs us Q I r ⟨F, ds, d, ex, br, e, q⟩
  obtain ⟨ys, rfl, e2⟩ := sLst1_inv e
  obtain ⟨x, rfl, h1⟩ := brepL1 br
  obtain ⟨a, vs, rfl, ha, ra⟩ := brep_lst ex h1
  cases z : asBools ys with
  | none => rw [z] at e2; cases e2
  | some ns =>
    rw [z] at e2
    cases e2
    have h := bools_rep ra z
    subst h
    exact cr_all O.calm pins s σ H _ us Q I r ⟨a, ns, rfl, by rw [O.K]; exact ha, Wants.same q ex (.bl _)⟩
theorem ok_any (O : XOk B X) : CallR X (.builtin "any") (R1o B .any) := by
  intro pins s σ H xs us Q I r ⟨F, ds, d, ex, br, e, q⟩
  obtain ⟨ys, rfl, e2⟩ := sLst1_inv e
  obtain ⟨x, rfl, h1⟩ := brepL1 br
  obtain ⟨a, vs, rfl, ha, ra⟩ := brep_lst ex h1
  cases z : asBools ys with
  | none => rw [z] at e2; cases e2
  | some ns =>
    rw [z] at e2
    cases e2
    have h := bools_rep ra z
    subst h
    exact cr_any O.calm pins s σ H _ us Q I r ⟨a, ns, rfl, by rw [O.K]; exact ha, Wants.same q ex (.bl _)⟩

/-! ### isinstance -/
/-- the class of a thing -/
def tyOf (B : Tb) : D → Value
  | .non => .type "NoneType"
  | .bl _ => .type "bool"
  | .int _ => .type "int"
  | .str _ => .type "str"
  | .tup _ => .type "tuple"
  | .lst _ => .type "list"
  | .dct _ _ => .type "dict"
  | .ins c _ => .ref (B.ca c)
/-- a class's object -/
def tyVal (B : Tb) : Ty → Value
  | .own c => .ref (B.ca c)
  | t => .type ((tyName t).getD "")
def tyV' (B : Tb) : Ty → V
  | .own c => .ref (B.ca c)
  | t => .ty ((tyName t).getD "")
def tyKnown (B : Tb) : Ty → Prop
  | .own c => c ∈ B.cls
  | _ => True
theorem kit_all {F H : Hp} {v : V} (O : XOk B X) {t : Ty} {d : D} (hd : ∀ c ds, d = .ins c ds → c ∈ B.cls) (ht : tyKnown B t) : PySem.W.kitOne B.K (tyOf B d) (tyVal B t) = some (isTy t d) := by
  cases d with
  | ins c ds =>
    have hc := hd c ds rfl
    cases t with
    | own c' =>
      refine (O.cls c hc).oo c' ht |>.trans ?_
      simp only [isTy, Ty.own.injEq, eq_comm]
    | int => exact (O.cls c hc).ob .int _ rfl
    | bool => exact (O.cls c hc).ob .bool _ rfl
    | str => exact (O.cls c hc).ob .str _ rfl
    | tuple => exact (O.cls c hc).ob .tuple _ rfl
    | list => exact (O.cls c hc).ob .list _ rfl
    | dict => exact (O.cls c hc).ob .dict _ rfl
  | _ =>
    cases t with
    | own c' =>
      have hc : c' ∈ B.cls := ht
      exact (O.cls c' hc).bo _ (by simp)
    | _ => first
      | (show PySem.W.kitOne B.K _ _ = some true; exact kit_ty (by decide +kernel))
      | (show PySem.W.kitOne B.K _ _ = some false; exact kit_ty (by decide +kernel))
theorem tyx_of {F H : Hp} {v : V} {d : D} (O : XOk B X) (ex : Ex F H) (h : BRep B F H v d) : TyX B.K H v (tyOf B d) ∧ ∀ c ds, d = .ins c ds → c ∈ B.cls := by
  cases d with
  | non => rw [brep_non h]; exact ⟨.base .non, fun _ _ e => nomatch e⟩
  | bl b => rw [brep_bl h]; exact ⟨.base (.bl _), fun _ _ e => nomatch e⟩
  | int i => rw [brep_int h]; exact ⟨.base (.int _), fun _ _ e => nomatch e⟩
  | str s => obtain ⟨x, rfl, _⟩ := brep_str h; exact ⟨.base (.str _), fun _ _ e => nomatch e⟩
  | tup ds =>
    obtain ⟨a, vs, rfl, _, ha, _⟩ := brep_tup ex h
    refine ⟨?_, fun _ _ e => nomatch e⟩
    rcases ha with (ha | ⟨o, ha⟩) | ⟨o, its, n, hk, hc, _⟩
    · exact .base (.tup ha)
    · exact .fTuple ha
    · exact .kTuple hk hc
  | lst ds =>
    obtain ⟨a, vs, rfl, ha, _⟩ := brep_lst ex h
    refine ⟨?_, fun _ _ e => nomatch e⟩
    rcases ha with (ha | ⟨o, ha⟩) | ⟨o, its, n, hk, hc, _⟩
    · exact .base (.lst ha)
    · exact .base (.frz ha)
    · exact .kList hk hc
  | dct ks ds =>
    obtain ⟨a, kvs, rfl, ha, _⟩ := brep_dct ex h
    exact ⟨.base (.dK ha), fun _ _ e => nomatch e⟩
  | ins c ds =>
    rcases h with h | ⟨_, _, _, _, e, _⟩ | ⟨_, _, _, _, e, _⟩
    · cases h with
      | ins m q n r =>
        have C := O.cls c m
        have Z := O.cgt (List.ne_nil_of_mem m)
        refine ⟨.base (.ins (ex _ _ q) C.cl C.ha Z.1 Z.2 C.hm), fun c' ds' e => by cases e; exact m⟩
    · cases e
    · cases e
theorem clsV_of (t : Ty) : ClsV (tyV' B t) (tyVal B t) := by cases t <;> first | exact .ty _ | exact .own _
theorem sIsi_inv {ts : List Ty} {ds : List D} {d : D} (e : sIsi ts ds = some d) : ∃ x, ds = [x] ∧ d = .bl (ts.any fun t => isTy t x) := by
  unfold sIsi at e
  split at e
  · cases e; exact ⟨_, rfl, rfl⟩
  · cases e
theorem ok_isi1 (O : XOk B X) {t : Ty} (ht : tyKnown B t) : CallR X (.builtin "isinstance") (fun xs H Q => ∃ v, xs = [v, tyV' B t] ∧ opR B (.isi [t]) [v] H Q) := by
  intro pins s σ H xs us Q I r ⟨v, hv, F, ds, d, ex, br, e, q⟩
  obtain ⟨x, rfl, rfl⟩ := sIsi_inv e
  obtain ⟨v', e', h1⟩ := brepL1 br
  cases e'
  subst hv
  obtain ⟨h2, h3⟩ := tyx_of O ex h1
  refine call_isi pins s σ H _ us Q I r ⟨v, _, tyOf B x, tyVal B t, isTy t x, rfl, clsV_of t, by rw [O.K]; exact h2, by rw [O.K]; exact kit_all (F := F) (H := H) (v := v) O h3 ht, ?_⟩
  have z : (isTy t x) = [t].any fun t => isTy t x := by simp
  rw [z]
  exact Wants.same q ex (.bl _)
theorem kits {F H : Hp} {v : V} (O : XOk B X) {d : D} (hd : ∀ c ds, d = .ins c ds → c ∈ B.cls) : ∀ {ts : List Ty}, (∀ t ∈ ts, tyKnown B t) → PySem.W.kitAny B.K (tyOf B d) (ts.map (tyVal B)) = some (ts.any fun t => isTy t d)
  | [], _ => rfl
  | t :: ts, ht => by
    refine kitAny_cons (kit_all (F := F) (H := H) (v := v) O hd (ht t List.mem_cons_self)) (fun e => ?_) fun e => ?_
    · rw [kits (F := F) (H := H) (v := v) O hd fun t h => ht t (List.mem_cons_of_mem _ h), List.any_cons, e]
      rfl
    · rw [List.any_cons, e]; rfl
theorem ok_isiN (O : XOk B X) {ts : List Ty} (ht : ∀ t ∈ ts, tyKnown B t) : CallR X (.builtin "isinstance") (fun xs H Q => ∃ v p, xs = [v, .ref p] ∧ H p = some (.tup (ts.map (tyV' B))) ∧ opR B (.isi ts) [v] H Q) := by
  intro pins s σ H xs us Q I r ⟨v, p, hv, hp, F, ds, d, ex, br, e, q⟩
  obtain ⟨x, rfl, rfl⟩ := sIsi_inv e
  obtain ⟨v', e', h1⟩ := brepL1 br
  cases e'
  subst hv
  obtain ⟨h2, h3⟩ := tyx_of O ex h1
  have pr : ∀ ts : List Ty, Paired ClsV (ts.map (tyV' B)) (ts.map (tyVal B)) := fun ts => by
    induction ts with
    | nil => exact .nil
    | cons t ts ih => exact .cons (clsV_of t) ih
  refine call_isiT pins s σ H _ us Q I r ⟨v, p, _, tyOf B x, _, _, rfl, hp, pr ts, by rw [O.K]; exact h2, by rw [O.K]; exact kits (F := F) (H := H) (v := v) O h3 ht, ?_⟩
  exact Wants.same q ex (.bl _)
end
end Py
end
section
set_option Elab.async false
set_option linter.all false
set_option maxRecDepth 100000
set_option maxHeartbeats 2000000
/-! Py over HandS: operations by their syntax. -/
namespace Py
open PySem PySem.Spec PyProof.Rows L2

def noStar : Expr → Bool
  | .Starred _ _ => false
  | _ => true
/-- whose truth is asked of its value -/
def plainT : Expr → Bool
  | .UnaryOp .Not _ _ => false
  | .BoolOp _ _ _ => false
  | .IfExp _ _ _ _ => false
  | .Compare _ _ _ _ => false
  | _ => true
def isSlice : Expr → Bool
  | .Slice _ _ _ _ => true
  | _ => false
def isSuper : Expr → Bool
  | .Call (.Name _ _) [] [] _ => true
  | _ => false
def isComp : Expr → Bool
  | .ListComp _ _ _ _ => true
  | .SetComp _ _ _ _ => true
  | .DictComp _ _ _ _ _ => true
  | _ => false
theorem star1 {e : Expr} (h : noStar e = true) (es : List Expr) (env : PySem.Env) : starEach (e :: es) env = (false, eval e env) :: starEach es env := by
  cases e <;> first | rfl | cases h
theorem stars {env : PySem.Env} {pos : Pos} : ∀ {es : List Expr}, es.all noStar = true → (backTo pos (starEach es env)).any (·.1) = false
  | [], _ => rfl
  | e :: es, h => by
    simp only [List.all_cons, Bool.and_eq_true] at h
    rw [star1 h.1]
    show (false || (backTo pos (starEach es env)).any (·.1)) = false
    rw [stars h.2]
    rfl
theorem truth_of {e : Expr} (h : plainT e = true) (env : PySem.Env) (whole : Sem Value) : isTrue e env whole = (do let v ← whole; standAt e.pos; holding [v] (truthy v)) := by
  cases e <;> first | rfl | (cases h; done) | (rename_i o x p; cases o <;> first | rfl | cases h)
theorem ix_of {b : Expr} (h : isSlice b = false) : PlainIx b := fun o i => by
  cases b <;> first | rfl | cases h
theorem base_of {e : Expr} (h : isSuper e = false) (f : Str) (env : PySem.Env) : attributeBase e f env (eval e env) = eval e env := by
  unfold attributeBase
  cases e <;> first | rfl | skip
  rename_i fn args kws pos
  cases fn <;> first | rfl | skip
  cases args <;> first | rfl | skip
  cases kws <;> first | rfl | skip
  cases h
theorem swap_of {e : Expr} (h : isComp e = false) (t : Option Expr) (l : Nat) (env : PySem.Env) : swapsWith e t l env = pure false := by
  cases e <;> first | rfl | cases h

/-- a reading that a weaker wish keeps -/
def Mono (t : TE) : Prop := ∀ σ H (Q Q' : VK), (∀ v H', Q v H' → Q' v H') → t σ H Q → t σ H Q'
inductive PEs (X : Cx) : List Expr → List TE → Prop
  | nil : PEs X [] []
  | cons {e : Expr} {es : List Expr} {t : TE} {ts : List TE} : PE X e t → Mono t → PEs X es ts → PEs X (e :: es) (t :: ts)
theorem PEs.one {X : Cx} {a : Expr} {ts : List TE} (h : PEs X [a] ts) : ∃ t, ts = [t] ∧ PE X a t ∧ Mono t := by
  cases h with
  | cons h m r =>
    cases r
    exact ⟨_, rfl, h, m⟩
theorem PEs.two {X : Cx} {a b : Expr} {ts : List TE} (h : PEs X [a, b] ts) : ∃ t u, ts = [t, u] ∧ PE X a t ∧ PE X b u ∧ Mono t ∧ Mono u := by
  cases h with
  | cons h m r =>
    obtain ⟨u, rfl, h2, m2⟩ := r.one
    exact ⟨_, _, rfl, h, h2, m, m2⟩
theorem nest_imp : ∀ {ts : List TE} {σ : L2.St} {H : Hp} {k k' : List V → Hp → Prop}, (∀ t ∈ ts, Mono t) → (∀ vs H', k vs H' → k' vs H') → nest ts σ H k → nest ts σ H k'
  | [], _, _, _, _, _, h, q => h _ _ q
  | t :: ts, σ, H, k, k', m, h, q => m t List.mem_cons_self σ H _ _ (fun x H1 w => nest_imp (fun t h => m t (List.mem_cons_of_mem _ h)) (fun xs H2 => h (x :: xs) H2) w) q
section
variable {B : Tb} {X : Cx}
theorem pas : ∀ {es : List Expr} {ts : List TE}, PEs X es ts → es.all noStar = true → PA X es (nest ts)
  | _, _, .nil, _ => pa_nil
  | _, _, .cons h _ r, hs => by
    simp only [List.all_cons, Bool.and_eq_true] at hs
    exact pa_cons h (pas r hs.2) (star1 hs.1 _ _)
theorem PE.mono {e : Expr} {t t' : TE} (h : PE X e t) (i : ∀ σ H Q, t' σ H Q → t σ H Q) : PE X e t' := ⟨fun pins s σ H Q I q => h.run pins s σ H Q I (i σ H Q q)⟩
theorem PT.mono {e : Expr} {t t' : TT} (h : PT X e t) (i : ∀ σ H Q, t' σ H Q → t σ H Q) : PT X e t' := ⟨fun pins s σ H Q I q => h.run pins s σ H Q I (i σ H Q q)⟩
theorem PS.mono {e : Stmt} {t t' : TS} (h : PS X e t) (i : ∀ D σ H, t' D σ H → t D σ H) : PS X e t' := ⟨fun pins s σ H D I q => h.run pins s σ H D I (i D σ H q)⟩
theorem PSs.mono {e : List Stmt} {t t' : TS} (h : PSs X e t) (i : ∀ D σ H, t' D σ H → t D σ H) : PSs X e t' := ⟨fun pins s σ H D I q => h.run pins s σ H D I (i D σ H q)⟩

def isGl (sc : Scope) (x y : Str) : Bool := decide (x = y) && decide (sc.names.lookup y = some .globalImplicit)
def tyStr : Ty → Option Str
  | .own _ => none
  | t => (tyName t).map Str.ofString
/-- a class's name -/
def tyAst (cn : Nat → Str) (sc : Scope) (t : Ty) : Expr → Bool
  | .Name x _ => match t with
    | .own c => isGl sc x (cn c)
    | t => match tyName t with
      | some n => isGl sc x n
      | none => false
  | _ => false
def tysAst (cn : Nat → Str) (sc : Scope) : List Ty → List Expr → Bool
  | [], [] => true
  | t :: ts, e :: es => tyAst cn sc t e && tysAst cn sc ts es
  | _, _ => false
/-- the operands of an operation's syntax -/
def opAst (cn : Nat → Str) (sc : Scope) : Op → Expr → Option (List Expr)
  | .add, .BinOp a .Add b _ => some [a, b]
  | .sub, .BinOp a .Sub b _ => some [a, b]
  | .mul, .BinOp a .Mult b _ => some [a, b]
  | .fdiv, .BinOp a .FloorDiv b _ => some [a, b]
  | .mod, .BinOp a .Mod b _ => some [a, b]
  | .pow, .BinOp a .Pow b _ => some [a, b]
  | .neg, .UnaryOp .USub a _ => some [a]
  | .idx, .Subscript a b _ => if isSlice b then none else some [a, b]
  | .len, .Call (.Name x _) [a] [] _ => if isGl sc x "len" && noStar a then some [a] else none
  | .int, .Call (.Name x _) [a] [] _ => if isGl sc x "int" && noStar a then some [a] else none
  | .abs, .Call (.Name x _) [a] [] _ => if isGl sc x "abs" && noStar a then some [a] else none
  | .str, .Call (.Name x _) [a] [] _ => if isGl sc x "str" && noStar a then some [a] else none
  | .sum, .Call (.Name x _) [a] [] _ => if isGl sc x "sum" && noStar a then some [a] else none
  | .all, .Call (.Name x _) [a] [] _ => if isGl sc x "all" && noStar a then some [a] else none
  | .any, .Call (.Name x _) [a] [] _ => if isGl sc x "any" && noStar a then some [a] else none
  | .isi ts, .Call (.Name x _) [a, c] [] _ => if isGl sc x "isinstance" && noStar a then match ts, c with
    | [t], c => if tyAst cn sc t c then some [a] else none
    | ts, .Tuple es _ _ => if tysAst cn sc ts es && decide (ts.length ≤ 20) then some [a] else none
    | _, _ => none else none
  | _, _ => none
/-- the operator of a comparison -/
def cmpOf : Op → Option CmpOp
  | .eq => some .Eq
  | .ne => some .NotEq
  | .lt => some .Lt
  | .le => some .LtE
  | .gt => some .Gt
  | .ge => some .GtE
  | .isN => some .Is
  | .notN => some .IsNot
  | _ => none

theorem gl_of {sc : Scope} (hs : X.env.scope = sc) {x y : Str} (h : isGl sc x y = true) : x = y ∧ Gl X y := by
  unfold isGl at h
  simp only [Bool.and_eq_true, decide_eq_true_eq] at h
  refine ⟨h.1, ?_⟩
  show X.env.scope.names.lookup y = some .globalImplicit
  rw [hs]
  exact h.2
theorem cmp_ok (O : XOk B X) {o : Op} {c : CmpOp} (h : cmpOf o = some c) : OpR X (compareOp c) (R2o B o) ∧ c ≠ .In ∧ c ≠ .NotIn := by
  cases o <;> simp only [cmpOf] at h <;> cases h
  · exact ⟨ok_eq O, by decide, by decide⟩
  · exact ⟨ok_ne O, by decide, by decide⟩
  · exact ⟨ok_lt, by decide, by decide⟩
  · exact ⟨ok_le, by decide, by decide⟩
  · exact ⟨ok_gt, by decide, by decide⟩
  · exact ⟨ok_ge, by decide, by decide⟩
  · exact ⟨ok_isN, by decide, by decide⟩
  · exact ⟨ok_notN, by decide, by decide⟩
theorem b1_ok {id : String} {x : Str} {o : Op} {a : Expr} {t : TE} {p pos : Pos} (O : XOk B X) (hc : CallR X (.builtin id) (R1o B o)) (hg : Gl X x) (hb : x ∈ bnames) (hv : bootBuiltins x = some (.builtin id)) (ha : PE X a t) (hm : Mono t) (hn : noStar a = true)
    (h1 : x ≠ "__name__" := by decide) (h2 : (x == ("__debug__" : Str)) = false := by decide) : PE X (.Call (.Name x p) [a] [] pos) (fun σ H Q => nest [t] σ H fun vs H1 => opR B o vs H1 Q) :=
  pe_callB hc hg (O.bl x hb) hv (pas (.cons ha hm .nil) (by simp [hn])) h1 h2 (star1 hn _ _) rfl
theorem t1_ok {id : String} {x : Str} {o : Op} {a : Expr} {t : TE} {p pos : Pos} (O : XOk B X) (hc : CallR X (.type id) (R1o B o)) (hg : Gl X x) (hb : x ∈ bnames) (hv : bootBuiltins x = some (.type id)) (ha : PE X a t) (hm : Mono t) (hn : noStar a = true)
    (h1 : x ≠ "__name__" := by decide) (h2 : (x == ("__debug__" : Str)) = false := by decide) : PE X (.Call (.Name x p) [a] [] pos) (fun σ H Q => nest [t] σ H fun vs H1 => opR B o vs H1 Q) :=
  pe_callTy hc hg (O.bl x hb) hv (pas (.cons ha hm .nil) (by simp [hn])) h1 h2 (star1 hn _ _) rfl
/-- names of classes -/
structure CnOk (B : Tb) (X : Cx) (cn : Nat → Str) : Prop where
  mg : ∀ c ∈ B.cls, X.mg (cn c) = some (.ref (B.ca c)) ∧ (cn c == ("__debug__" : Str)) = false
theorem ty_pe {cn : Nat → Str} {sc : Scope} (O : XOk B X) (N : CnOk B X cn) (hs : X.env.scope = sc) {t : Ty} {e : Expr} (hk : tyKnown B t) (h : tyAst cn sc t e = true) : PE X e (tC (tyV' B t)) ∧ noStar e = true := by
  cases e <;> simp only [tyAst] at h <;> try (cases h; done)
  rename_i x p
  refine ⟨?_, rfl⟩
  cases t with
  | own c =>
    obtain ⟨rfl, hg⟩ := gl_of hs h
    obtain ⟨h1, h2⟩ := N.mg c hk
    exact pe_glob hg h1 rfl h2
  | int => obtain ⟨rfl, hg⟩ := gl_of hs h; exact pe_bltn hg (O.bl _ (by decide)) boot_int rfl
  | bool => obtain ⟨rfl, hg⟩ := gl_of hs h; exact pe_bltn hg (O.bl _ (by decide)) boot_bool rfl
  | str => obtain ⟨rfl, hg⟩ := gl_of hs h; exact pe_bltn hg (O.bl _ (by decide)) boot_str rfl
  | tuple => obtain ⟨rfl, hg⟩ := gl_of hs h; exact pe_bltn hg (O.bl _ (by decide)) boot_tuple rfl
  | list => obtain ⟨rfl, hg⟩ := gl_of hs h; exact pe_bltn hg (O.bl _ (by decide)) boot_list rfl
  | dict => obtain ⟨rfl, hg⟩ := gl_of hs h; exact pe_bltn hg (O.bl _ (by decide)) boot_dict rfl
def tCs : List V → List TE := List.map tC
theorem tys_pe {cn : Nat → Str} {sc : Scope} (O : XOk B X) (N : CnOk B X cn) (hs : X.env.scope = sc) : ∀ {ts : List Ty} {es : List Expr}, (∀ t ∈ ts, tyKnown B t) → tysAst cn sc ts es = true → PEs X es (tCs (ts.map (tyV' B))) ∧ es.all noStar = true
  | [], [], _, _ => ⟨.nil, rfl⟩
  | t :: ts, e :: es, hk, h => by
    simp only [tysAst, Bool.and_eq_true] at h
    obtain ⟨h1, h2⟩ := ty_pe O N hs (hk t List.mem_cons_self) h.1
    obtain ⟨h3, h4⟩ := tys_pe O N hs (fun t h => hk t (List.mem_cons_of_mem _ h)) h.2
    exact ⟨.cons h1 (fun _ _ _ _ h q => h _ _ q) h3, by rw [List.all_cons, h2, h4]; rfl⟩
  | [], _ :: _, _, h => by simp [tysAst] at h
  | _ :: _, [], _, h => by simp [tysAst] at h
theorem nest_tCs {σ : L2.St} {H : Hp} : ∀ (vs : List V) (k : List V → Hp → Prop), nest (tCs vs) σ H k = k vs H
  | [], _ => rfl
  | v :: vs, k => nest_tCs vs _

/-- a new thing laid ahead changes nothing -/
theorem opR_new {o : Op} {vs : List V} {H : Hp} {Q : VK} {p : Addr} {u : HO} (h : opR B o vs H Q) (hp : H p = none) : opR B o vs (upd H p u) Q := by
  obtain ⟨F, ds, d, ex, br, e, q⟩ := h
  have ex1 : Ex H (upd H p u) := Ex.new hp
  have brs : ∀ {vs : List V} {ds : List D}, BRepL B F H vs ds → BRepL B F (upd H p u) vs ds := by
    intro vs
    induction vs with
    | nil => intro ds h; cases ds <;> first | trivial | exact h.elim
    | cons v vs ih =>
      intro ds h
      cases ds with
      | nil => exact h.elim
      | cons d ds =>
        refine ⟨?_, ih h.2⟩
        rcases h.1 with h | ⟨q, ws, xs, e1, e2, h1, h2⟩ | ⟨q, ws, xs, e1, e2, h1, h2⟩
        · exact .inl h
        · exact .inr (.inl ⟨q, ws, xs, e1, e2, ex1 _ _ h1, h2⟩)
        · exact .inr (.inr ⟨q, ws, xs, e1, e2, ex1 _ _ h1, h2⟩)
  refine ⟨F, ds, d, ex.trans ex1, brs br, e, fun v F' H' f ex' up nt r => q v F' H' ⟨f.ext, fun b h1 h2 => ?_, fun b o h1 h2 h3 => f.keep b o (ex1 b o h1) h2 h3, fun b h => nz_new hp (f.there b h)⟩ ex' (fun b o h => up b o (ex1 b o h)) nt r⟩
  rcases f.new b h1 h2 with z | z
  · exact .inl z
  · exact .inr (nz_new hp z)
/-- every operation that is no comparison -/
theorem op_ok (O : XOk B X) {cn : Nat → Str} (N : CnOk B X cn) {sc : Scope} (hs : X.env.scope = sc) {o : Op} {ast : Expr} {as : List Expr} {ts : List TE} (h : opAst cn sc o ast = some as) (hk : ∀ us, o = .isi us → ∀ t ∈ us, tyKnown B t) (ps : PEs X as ts) :
    PE X ast (fun σ H Q => nest ts σ H fun vs H1 => opR B o vs H1 Q) ∧ plainT ast = true ∧ noStar ast = true ∧ isSlice ast = false ∧ isComp ast = false ∧ isSuper ast = false := by
  unfold opAst at h
  split at h
  · cases h; obtain ⟨t, u, rfl, p1, p2, _⟩ := ps.two; exact ⟨pe_op (ok_add O.K) p1 p2, rfl, rfl, rfl, rfl, rfl⟩
  · cases h; obtain ⟨t, u, rfl, p1, p2, _⟩ := ps.two; exact ⟨pe_op ok_sub p1 p2, rfl, rfl, rfl, rfl, rfl⟩
  · cases h; obtain ⟨t, u, rfl, p1, p2, _⟩ := ps.two; exact ⟨pe_op ok_mul p1 p2, rfl, rfl, rfl, rfl, rfl⟩
  · cases h; obtain ⟨t, u, rfl, p1, p2, _⟩ := ps.two; exact ⟨pe_op ok_fdiv p1 p2, rfl, rfl, rfl, rfl, rfl⟩
  · cases h; obtain ⟨t, u, rfl, p1, p2, _⟩ := ps.two; exact ⟨pe_op ok_mod p1 p2, rfl, rfl, rfl, rfl, rfl⟩
  · cases h; obtain ⟨t, u, rfl, p1, p2, _⟩ := ps.two; exact ⟨pe_op ok_pow p1 p2, rfl, rfl, rfl, rfl, rfl⟩
  · cases h; obtain ⟨t, rfl, p1, _⟩ := ps.one; exact ⟨pe_un ok_neg p1, rfl, rfl, rfl, rfl, rfl⟩
  · split at h
    · cases h
    · rename_i hb
      cases h; obtain ⟨t, u, rfl, p1, p2, _⟩ := ps.two; exact ⟨pe_ix (ok_idx O) p1 p2 (ix_of (by simpa using hb)), rfl, rfl, rfl, rfl, rfl⟩
  case h_16 =>
    rename_i us x p1 a c p2
    split at h
    · rename_i hb
      simp only [Bool.and_eq_true] at hb
      obtain ⟨hb, hn⟩ := hb
      obtain ⟨rfl, hg⟩ := gl_of hs hb
      refine ⟨?_, rfl, rfl, rfl, rfl, rfl⟩
      split at h
      · rename_i t
        split at h
        · rename_i ht
          cases h
          obtain ⟨u, rfl, q1, m⟩ := ps.one
          obtain ⟨h1, h2⟩ := ty_pe O N hs (hk _ rfl t (by simp)) ht
          refine PE.mono (pe_callB (ok_isi1 (B := B) O (hk _ rfl t (by simp))) hg (O.bl _ (by decide)) boot_isinstance (pas (.cons q1 m (.cons h1 (fun _ _ _ _ h q => h _ _ q) .nil)) (by simp [hn, h2])) (by decide) (by decide) (star1 hn _ _) (stars (by simp [h2]))) fun σ H Q q => ?_
          exact m σ H _ _ (fun v H' w => ⟨v, rfl, w⟩) q
        · cases h
      · rename_i es _ _ _
        split at h
        · rename_i ht
          simp only [Bool.and_eq_true, decide_eq_true_eq] at ht
          cases h
          obtain ⟨u, rfl, q1, m⟩ := ps.one
          obtain ⟨h1, h2⟩ := tys_pe O N hs (hk _ rfl) ht.1
          refine PE.mono (pe_callB (ok_isiN (B := B) O (hk _ rfl)) hg (O.bl _ (by decide)) boot_isinstance (pas (.cons q1 m (.cons (pe_tup (pas h1 h2)) (fun σ H Q Q' h q => ?_) .nil)) (by rw [List.all_cons, hn]; rfl)) (by decide) (by decide) (star1 hn _ _) (stars (by simp [noStar]))) fun σ H Q q => ?_
          · have q : nest _ σ H _ := q
            rw [nest_tCs] at q
            show nest _ σ H _
            rw [nest_tCs]
            exact ⟨q.1, fun p hp => h _ _ (q.2 p hp)⟩
          · refine m σ H _ _ (fun v H' w => ?_) q
            show nest (tCs (us.map (tyV' B))) σ H' _
            rw [nest_tCs]
            refine ⟨?_, fun p hp => ⟨v, p, rfl, upd_same, opR_new w hp⟩⟩
            rw [List.length_map, lineEq]
            have := ht.2
            show _ ≤ 16777216
            omega
        · cases h
      · cases h
    · cases h
  case h_17 => cases h
  all_goals
    split at h
    · rename_i hb
      simp only [Bool.and_eq_true] at hb
      obtain ⟨hb, hn⟩ := hb
      obtain ⟨rfl, hg⟩ := gl_of hs hb
      cases h
      obtain ⟨u, rfl, p1, m⟩ := ps.one
      first
      | exact ⟨b1_ok O (ok_len O) hg (by decide) PySem.boot_len p1 m hn, rfl, rfl, rfl, rfl, rfl⟩
      | exact ⟨t1_ok O ok_int hg (by decide) boot_int p1 m hn, rfl, rfl, rfl, rfl, rfl⟩
      | exact ⟨b1_ok O ok_abs hg (by decide) boot_abs p1 m hn, rfl, rfl, rfl, rfl, rfl⟩
      | exact ⟨t1_ok O ok_str hg (by decide) boot_str p1 m hn, rfl, rfl, rfl, rfl, rfl⟩
      | exact ⟨b1_ok O (ok_sum O) hg (by decide) (by decide +kernel) p1 m hn, rfl, rfl, rfl, rfl, rfl⟩
      | exact ⟨b1_ok O (ok_all O) hg (by decide) (by decide +kernel) p1 m hn, rfl, rfl, rfl, rfl, rfl⟩
      | exact ⟨b1_ok O (ok_any O) hg (by decide) (by decide +kernel) p1 m hn, rfl, rfl, rfl, rfl, rfl⟩
    · cases h
end
end Py
end
section
set_option Elab.async false
set_option linter.all false
set_option maxRecDepth 100000
set_option maxHeartbeats 2000000
/-! Py over HandS: calls. -/
namespace Py
open PySem PySem.Spec PyProof.Rows L2

/-- a def's promise, from what the interpreter tells of it -/
def spI (B : Tb) (g : List O → CRes) : Sp := fun vs H Q E => ∃ F os, SR B F H (vs.map some) os ∧ match g os with
  | .ret o fin => ∀ v F' H', Fr (Ow os (vs.map some)) F H F' H' → SR B F' H' (vs.map some) fin → (∀ b, Ow fin (vs.map some) b → Ow os (vs.map some) b) → OutR B F' H' (vs.map some) fin v o →
      (isOwn o = true → ∀ p, v = .ref p → Ow os (vs.map some) p ∨ Nz H p) → Q v H'
  | .exc c ds fin => ∀ F' H' dd, Fr (Ow os (vs.map some)) F H F' H' → SR B F' H' (vs.map some) fin → (∀ b, Ow fin (vs.map some) b → Ow os (vs.map some) b) → ExcR B F' H' c ds dd → E (.ref (B.ca c)) dd H'
  | .stuck => False

section
variable {B : Tb} {F H F' H' : Hp} {σ : L2.St} {env env' : Env}
theorem args_len : ∀ {es : Es} {vs : List V} {ds : List D}, ArgsR B F σ es vs ds → (fillO es ds env).length = vs.length
  | .nil, [], [], _ => rfl
  | .cons e es, v :: vs, d :: ds, ⟨_, r⟩ => by
    unfold fillO
    cases q : isBor e <;> simp [args_len r]
/-- an argument's place -/
theorem args_at (S : SR B F H σ env) : ∀ {es : Es} {vs : List V} {ds : List D}, ArgsR B F σ es vs ds → ∀ k, SlotR B F H (vs.map some)[k]? (getS (fillO es ds env) k) ∧
    (isOwn (getS (fillO es ds env) k) = true → ∃ i, getS env i = getS (fillO es ds env) k ∧ σ[i]? = (vs.map some)[k]? ∧ i ∈ bors es)
  | .nil, [], [], _, k => by cases k <;> exact ⟨trivial, fun h => by cases h⟩
  | .cons e es, v :: vs, d :: ds, ⟨h, r⟩, 0 => by
    unfold fillO
    cases q : isBor e with
    | some i =>
      rw [q] at h
      have h : σ[i]? = some (some v) := h
      have sl := S.slot i
      rw [h] at sl
      refine ⟨sl, fun _ => ⟨i, rfl, h, ?_⟩⟩
      unfold bors
      rw [q]
      exact List.mem_cons_self
    | none =>
      rw [q] at h
      exact ⟨⟨v, rfl, h⟩, fun h => by cases h⟩
  | .cons e es, v :: vs, d :: ds, ⟨h, r⟩, k + 1 => by
    obtain ⟨h1, h2⟩ := args_at S r k
    unfold fillO
    cases q : isBor e with
    | some i =>
      refine ⟨h1, fun ho => ?_⟩
      obtain ⟨j, a1, a2, a3⟩ := h2 ho
      refine ⟨j, a1, a2, ?_⟩
      unfold bors
      rw [q]
      exact List.mem_cons_of_mem _ a3
    | none =>
      refine ⟨h1, fun ho => ?_⟩
      obtain ⟨j, a1, a2, a3⟩ := h2 ho
      refine ⟨j, a1, a2, ?_⟩
      unfold bors
      rw [q]
      exact a3
theorem bors_at : ∀ {es : Es} {vs : List V} {ds : List D}, ArgsR B F σ es vs ds → ∀ {i : Nat}, i ∈ bors es → ∃ k : Nat, ∃ v, vs[k]? = some v ∧ σ[i]? = some (some v) ∧ getS (fillO es ds env) k = getS env i
  | .nil, [], [], _, i, h => by simp [bors] at h
  | .cons e es, v :: vs, d :: ds, ⟨h, r⟩, i, hm => by
    unfold bors at hm
    unfold fillO
    cases q : isBor e with
    | some j =>
      rw [q] at hm h
      rcases List.mem_cons.mp hm with rfl | hm
      · exact ⟨0, v, rfl, h, rfl⟩
      · obtain ⟨k, w, a1, a2, a3⟩ := bors_at r hm
        exact ⟨k + 1, w, by simpa using a1, a2, a3⟩
    | none =>
      rw [q] at hm
      obtain ⟨k, w, a1, a2, a3⟩ := bors_at r hm
      exact ⟨k + 1, w, by simpa using a1, a2, a3⟩
/-- two places that are owned at one address are one place -/
theorem args_apart (S : SR B F H σ env) : ∀ {es : Es} {vs : List V} {ds : List D}, ArgsR B F σ es vs ds → (bors es).Nodup → ∀ (a b : Nat) (p : Addr), isOwn (getS (fillO es ds env) a) = true → isOwn (getS (fillO es ds env) b) = true →
    (vs.map some)[a]? = some (some (V.ref p)) → (vs.map some)[b]? = some (some (V.ref p)) → a = b
  | .nil, [], [], _, _, a, b, p, h, _, _, _ => by cases a <;> cases h
  | .cons e es, v :: vs, d :: ds, ⟨h, r⟩, nd, 0, 0, p, _, _, _, _ => rfl
  | .cons e es, v :: vs, d :: ds, ⟨h, r⟩, nd, a + 1, b + 1, p, h1, h2, h3, h4 => by
    have nd' : (bors es).Nodup := by
      unfold bors at nd
      cases q : isBor e with
      | some i => rw [q] at nd; exact (List.nodup_cons.mp nd).2
      | none => rw [q] at nd; exact nd
    have u : ∀ k, getS (fillO (.cons e es) (d :: ds) env) (k + 1) = getS (fillO es ds env) k := fun k => by
      rw [fillO]
      cases q : isBor e <;> rfl
    rw [u] at h1 h2
    exact congrArg (· + 1) (args_apart S r nd' a b p h1 h2 (by simpa using h3) (by simpa using h4))
  | .cons e es, v :: vs, d :: ds, ⟨h, r⟩, nd, 0, b + 1, p, h1, h2, h3, h4 => by
    exfalso
    have u : ∀ k, getS (fillO (.cons e es) (d :: ds) env) (k + 1) = getS (fillO es ds env) k := fun k => by
      rw [fillO]
      cases q : isBor e <;> rfl
    rw [u] at h2
    rw [fillO] at h1
    cases q : isBor e with
    | none => rw [q] at h1; cases h1
    | some i =>
      rw [q] at h1 h
      obtain ⟨j, a1, a2, a3⟩ := (args_at S r b).2 h2
      have e1 : σ[i]? = some (some v) := h
      have e2 : (some (some v) : Option (Option V)) = some (some (.ref p)) := by simpa using h3
      have e3 : (vs.map some)[b]? = some (some (V.ref p)) := by simpa using h4
      have hij := S.apart i j p (by simpa using h1) (by rw [a1]; exact h2) (e1.trans e2) (a2.trans e3)
      subst hij
      unfold bors at nd
      rw [q] at nd
      exact (List.nodup_cons.mp nd).1 a3
  | .cons e es, v :: vs, d :: ds, ⟨h, r⟩, nd, a + 1, 0, p, h1, h2, h3, h4 => by
    exact ((args_apart S (es := .cons e es) (vs := v :: vs) (ds := d :: ds) ⟨h, r⟩ nd 0 (a + 1) p h2 h1 h4 h3)).symm
termination_by es vs ds _ _ a b => (sizeOf es, if b = 0 ∧ a ≠ 0 then 1 else 0)
theorem args_sr (S : SR B F H σ env) {es : Es} {vs : List V} {ds : List D} (a : ArgsR B F σ es vs ds) (nd : (bors es).Nodup) : SR B F H (vs.map some) (fillO es ds env) :=
  ⟨S.ext, S.tab, S.notab, by rw [args_len a, List.length_map], fun k => (args_at S a k).1, fun x y p h1 h2 h3 h4 => args_apart S a nd x y p h1 h2 h3 h4⟩
/-- what the callee owns the caller owned -/
theorem args_ow (S : SR B F H σ env) {es : Es} {vs : List V} {ds : List D} (a : ArgsR B F σ es vs ds) {p : Addr} (h : Ow (fillO es ds env) (vs.map some) p) : ∃ i ∈ bors es, isOwn (getS env i) = true ∧ σ[i]? = some (some (.ref p)) := by
  obtain ⟨k, h1, h2⟩ := h
  obtain ⟨i, a1, a2, a3⟩ := (args_at S a k).2 h1
  exact ⟨i, a3, by rw [a1]; exact h1, a2.trans h2⟩
def borAt : Es → Nat → Option Nat
  | .nil, _ => none
  | .cons e _, 0 => isBor e
  | .cons _ es, k + 1 => borAt es k
def esLen : Es → Nat
  | .nil => 0
  | .cons _ es => esLen es + 1
theorem args_len2 : ∀ {es : Es} {vs : List V} {ds : List D}, ArgsR B F σ es vs ds → vs.length = esLen es
  | .nil, [], [], _ => rfl
  | .cons e es, v :: vs, d :: ds, ⟨_, r⟩ => by simp [esLen, args_len2 r]
theorem bors_in : ∀ {es : Es} {i k : Nat}, borAt es k = some i → i ∈ bors es
  | .nil, _, _, h => by simp [borAt] at h
  | .cons e es, i, 0, h => by
    have h : isBor e = some i := h
    unfold bors
    rw [h]
    exact List.mem_cons_self
  | .cons e es, i, k + 1, h => by
    have := bors_in (es := es) (k := k) h
    unfold bors
    cases q : isBor e with
    | some j => exact List.mem_cons_of_mem _ this
    | none => exact this
theorem back_at : ∀ {es : Es} {fin : List O} {env : Env}, (bors es).Nodup → fin.length = esLen es → (∀ i ∈ bors es, i < env.length) → ∀ i, (i ∉ bors es → getS (backO es fin env) i = getS env i) ∧ (i ∈ bors es → ∃ k, borAt es k = some i ∧ getS (backO es fin env) i = getS fin k)
  | .nil, [], env, _, _, _, i => ⟨fun _ => rfl, fun h => by simp [bors] at h⟩
  | .nil, _ :: _, env, _, h, _, i => by simp [esLen] at h
  | .cons e es, [], env, _, h, _, i => by simp [esLen] at h
  | .cons e es, o :: fin, env, nd, hl, hi, i => by
    have hl' : fin.length = esLen es := by simpa [esLen] using hl
    unfold backO
    unfold bors at nd hi ⊢
    cases q : isBor e with
    | some j =>
      rw [q] at nd hi
      obtain ⟨n1, n2⟩ := List.nodup_cons.mp nd
      have hj : j < env.length := hi j List.mem_cons_self
      obtain ⟨a1, a2⟩ := back_at (env := setS env j o) n2 hl' (fun i h => by rw [setS_length]; exact hi i (List.mem_cons_of_mem _ h)) i
      refine ⟨fun h => ?_, fun h => ?_⟩
      · have hne : j ≠ i := fun e => h (e ▸ List.mem_cons_self)
        have := a1 fun z => h (List.mem_cons_of_mem _ z)
        rw [getS_set_ne hne] at this
        exact this
      · rcases List.mem_cons.mp h with rfl | h
        · refine ⟨0, q, ?_⟩
          have := a1 n1
          rw [getS_set_self hj] at this
          exact this
        · obtain ⟨k, b1, b2⟩ := a2 h
          exact ⟨k + 1, b1, b2⟩
    | none =>
      rw [q] at nd hi
      obtain ⟨a1, a2⟩ := back_at (env := env) nd hl' hi i
      refine ⟨a1, fun h => ?_⟩
      obtain ⟨k, b1, b2⟩ := a2 h
      exact ⟨k + 1, b1, b2⟩
theorem args_pos (S : SR B F H σ env) : ∀ {es : Es} {vs : List V} {ds : List D}, ArgsR B F σ es vs ds → ∀ {i k : Nat}, borAt es k = some i → ∃ v, vs[k]? = some v ∧ σ[i]? = some (some v) ∧ getS (fillO es ds env) k = getS env i
  | .nil, [], [], _, i, k, h => by simp [borAt] at h
  | .cons e es, v :: vs, d :: ds, ⟨h, r⟩, i, 0, hb => by
    have hb : isBor e = some i := hb
    rw [hb] at h
    refine ⟨v, rfl, h, ?_⟩
    rw [fillO, hb]
    rfl
  | .cons e es, v :: vs, d :: ds, ⟨h, r⟩, i, k + 1, hb => by
    obtain ⟨w, a1, a2, a3⟩ := args_pos S r (i := i) (k := k) hb
    refine ⟨w, by simpa using a1, a2, ?_⟩
    rw [fillO]
    cases q : isBor e <;> exact a3
theorem backO_length : ∀ (es : Es) (fin : List O) (env : Env), (backO es fin env).length = env.length
  | .nil, _, _ => by simp
  | .cons e es, [], env => by simp
  | .cons e es, o :: fin, env => by
    rw [backO]
    cases q : isBor e with
    | some i => exact (backO_length es fin _).trans (setS_length _ _ _)
    | none => exact backO_length es fin env
/-- behind a call: the caller's state -/
theorem call_back (S : SR B F H σ env) {es : Es} {vs : List V} {ds : List D} (a : ArgsR B F σ es vs ds) (nd : (bors es).Nodup) {fin : List O} (f : Fr (Ow (fillO es ds env) (vs.map some)) F H F' H') (S' : SR B F' H' (vs.map some) fin)
    (o : ∀ b, Ow fin (vs.map some) b → Ow (fillO es ds env) (vs.map some) b) :
    Fr (Ow env σ) F H F' H' ∧ SR B F' H' σ (backO es fin env) ∧ (∀ b, Ow (backO es fin env) σ b → Ow env σ b) ∧
      (∀ b, Ow (backO es fin env) σ b → Ow fin (vs.map some) b ∨ (Ow env σ b ∧ ¬ Ow (fillO es ds env) (vs.map some) b)) := by
  have hl : fin.length = esLen es := by rw [S'.len, List.length_map, args_len2 a]
  have hlt : ∀ i ∈ bors es, i < env.length := fun i hi => by
    obtain ⟨k, v, _, h2, _⟩ := bors_at (env := env) a hi
    rw [S.len]
    exact (List.getElem?_eq_some_iff.mp h2).1
  have B1 := back_at (env := env) nd hl hlt
  have osub : ∀ b, Ow (fillO es ds env) (vs.map some) b → Ow env σ b := fun b h => by
    obtain ⟨i, _, h1, h2⟩ := args_ow S a h
    exact ⟨i, h1, h2⟩
  -- what is owned behind the call
  have owned : ∀ i p, isOwn (getS (backO es fin env) i) = true → σ[i]? = some (some (V.ref p)) →
      (i ∈ bors es ∧ ∃ k, borAt es k = some i ∧ isOwn (getS fin k) = true ∧ (vs.map some)[k]? = some (some (V.ref p))) ∨ (i ∉ bors es ∧ isOwn (getS env i) = true ∧ ¬ Ow (fillO es ds env) (vs.map some) p) := fun i p h1 h2 => by
    by_cases hi : i ∈ bors es
    · obtain ⟨k, b1, b2⟩ := (B1 i).2 hi
      obtain ⟨v, a1, a2, a3⟩ := args_pos S a b1
      refine .inl ⟨hi, k, b1, by rw [← b2]; exact h1, ?_⟩
      rw [a2] at h2
      cases h2
      rw [List.getElem?_map, a1]
      rfl
    · have e := (B1 i).1 hi
      rw [e] at h1
      refine .inr ⟨hi, h1, fun z => ?_⟩
      obtain ⟨j, q1, q2, q3⟩ := args_ow S a z
      exact hi (S.apart i j p h1 q2 h2 q3 ▸ q1)
  refine ⟨f.mono osub, ⟨S'.ext, S'.tab, S'.notab, by rw [backO_length]; exact S.len, fun i => ?_, fun i j p h1 h2 h3 h4 => ?_⟩, fun b h => ?_, fun b h => ?_⟩
  · by_cases hi : i ∈ bors es
    · obtain ⟨k, b1, b2⟩ := (B1 i).2 hi
      obtain ⟨v, a1, a2, a3⟩ := args_pos S a b1
      have sl := S'.slot k
      rw [List.getElem?_map, a1] at sl
      rw [b2, a2]
      exact sl
    · rw [(B1 i).1 hi]
      refine (S.slot i).keep f S'.ext fun ho p hx z => ?_
      obtain ⟨j, q1, q2, q3⟩ := args_ow S a z
      exact hi (S.apart i j p ho q2 hx q3 ▸ q1)
  · rcases owned i p h1 h3 with ⟨m1, k1, c1, c2, c3⟩ | ⟨m1, c1, c2⟩
    · rcases owned j p h2 h4 with ⟨m2, k2, d1, d2, d3⟩ | ⟨m2, d1, d2⟩
      · have e := S'.apart k1 k2 p c2 d2 c3 d3
        subst e
        rw [c1] at d1
        exact Option.some.inj d1
      · exact absurd (o p ⟨k1, c2, c3⟩) d2
    · rcases owned j p h2 h4 with ⟨m2, k2, d1, d2, d3⟩ | ⟨m2, d1, d2⟩
      · exact absurd (o p ⟨k2, d2, d3⟩) c2
      · exact S.apart i j p c1 d1 h3 h4
  · obtain ⟨i, h1, h2⟩ := h
    rcases owned i b h1 h2 with ⟨m1, k1, c1, c2, c3⟩ | ⟨m1, c1, c2⟩
    · exact osub b (o b ⟨k1, c2, c3⟩)
    · exact ⟨i, c1, h2⟩
  · obtain ⟨i, h1, h2⟩ := h
    rcases owned i b h1 h2 with ⟨m1, k1, c1, c2, c3⟩ | ⟨m1, c1, c2⟩
    · exact .inl ⟨k1, c2, c3⟩
    · exact .inr ⟨⟨i, c1, h2⟩, c2⟩
/-- what is told is frozen -/
theorem freeze_out {v : V} {o : O} {d : D} (S : SR B F H σ env) (h : OutR B F H σ env v o) (e : frz o = some d) :
    ∃ F', Ex F F' ∧ (∀ b, F b = none → F' b ≠ none → isOwn o = true ∧ v = .ref b) ∧ SR B F' H σ env ∧ Rep B F' v d := by
  obtain ⟨sl, _, na⟩ := h
  have own : ∀ (p : Addr) (u : HO), v = .ref p → isOwn o = true → F p = none → H p = some u → (∀ ps, u ≠ .tbl ps) → (∀ F', Ex F F' → F' p = some u → Rep B F' v d) → ∃ F', Ex F F' ∧ (∀ b, F b = none → F' b ≠ none → isOwn o = true ∧ v = .ref b) ∧ SR B F' H σ env ∧ Rep B F' v d := fun p u hv ho h1 h2 ht hr => by
    have e1 : Ex F (upd F p u) := Ex.new h1
    refine ⟨upd F p u, e1, fun b hb hn => ?_, ⟨fun b w hb => ?_, S.tab, fun b ps hb => ?_, S.len, fun i => ?_, S.apart⟩, hr _ e1 upd_same⟩
    · by_cases z : b = p
      · subst z; exact ⟨ho, hv⟩
      · rw [upd_ne z] at hn; exact absurd hb hn
    · by_cases z : b = p
      · subst z; rw [upd_same] at hb; cases hb; exact h2
      · rw [upd_ne z] at hb; exact S.ext b w hb
    · by_cases z : b = p
      · subst z; rw [upd_same] at hb; cases hb; exact ht ps rfl
      · rw [upd_ne z] at hb; exact S.notab b ps hb
    · have s0 := S.slot i
      cases g : getS env i with
      | un => trivial
      | v d => rw [g] at s0; obtain ⟨w, q, r⟩ := s0; exact ⟨w, q, r.ex e1⟩
      | fl xs =>
        rw [g] at s0
        obtain ⟨p', vs, q, q1, q2, r⟩ := s0
        have hp : p' ≠ p := fun z => na ho p hv ⟨i, by rw [g]; rfl, by rw [← z]; exact q⟩
        exact ⟨p', vs, q, by rw [upd_ne hp]; exact q1, q2, r.ex e1⟩
      | fd ks xs =>
        rw [g] at s0
        obtain ⟨p', vs, q, q1, q2, qk, r⟩ := s0
        have hp : p' ≠ p := fun z => na ho p hv ⟨i, by rw [g]; rfl, by rw [← z]; exact q⟩
        exact ⟨p', vs, q, by rw [upd_ne hp]; exact q1, q2, qk, r.ex e1⟩
      | fi c xs =>
        rw [g] at s0
        obtain ⟨p', dx, vs, q, q1, q2, qk, r, ql⟩ := s0
        have hp : p' ≠ p := fun z => na ho p hv ⟨i, by rw [g]; rfl, by rw [← z]; exact q⟩
        exact ⟨p', dx, vs, q, by rw [upd_ne hp]; exact q1, q2, qk, r.ex e1, ql⟩
  cases o with
  | un => cases e
  | v d' =>
    cases e
    obtain ⟨w, q, r⟩ := sl
    cases q
    exact ⟨F, Ex.refl F, fun b h n => absurd h n, S, r⟩
  | fl xs =>
    cases e
    obtain ⟨p, vs, q, h1, h2, r⟩ := sl
    cases q
    exact own p _ rfl rfl h1 h2 (fun _ z => nomatch z) fun F' e1 e2 => .lst (.inl (.inl e2)) (r.ex e1)
  | fd ks xs =>
    cases e
    obtain ⟨p, kvs, q, h1, h2, hk, r⟩ := sl
    cases q
    refine own p _ rfl rfl h1 h2 (fun _ z => nomatch z) fun F' e1 e2 => ?_
    subst hk
    exact .dct e2 (r.ex e1)
  | fi c xs => cases e
end
end Py
end
section
set_option Elab.async false
set_option linter.all false
set_option maxRecDepth 100000
set_option maxHeartbeats 2000000
/-! Py over HandS: what is walked. -/
namespace Py
open PySem PySem.Spec PyProof.Rows L2

/-- J gives what stands for xs, one by one, while F stands -/
structure WalkD (B : Tb) (J : L2.It) (xs : List D) (F : Hp) : Prop where
  goes : ∀ i H, i < xs.length → Ex F H → J.go i H
  stops : ∀ H, Ex F H → J.stop xs.length H
  yields : ∀ i H F1 x H', i < xs.length → Ex F F1 → Ex F1 H → J.yld i H x H' → ∃ F2 d, xs[i]? = some d ∧ Fr (fun _ => False) F1 H F2 H' ∧ Ex F2 H' ∧ (∀ b o, H b = some o → H' b = some o) ∧ (∀ b ps, F2 b = some (.tbl ps) → F1 b = some (.tbl ps)) ∧ Rep B F2 x d
section
variable {B : Tb} {F : Hp} {vs ws : List V} {ds es : List D} {a b : Addr}
theorem walkD_list (h : SqL B.K F a vs) (r : RepL B F vs ds) : WalkD B (Itl B.K a) ds F := by
  have w := walk_list (K := B.K) (a := a) (xs := vs)
  rw [r.length] at w
  refine ⟨fun i H hi e => w.goes i H hi (ex_l e h), fun H e => w.stops H (ex_l e h), fun i H F1 x H' hi e e1 y => ?_⟩
  obtain ⟨rfl, hx⟩ := w.yields i H x H' hi (ex_l (e.trans e1) h) y
  obtain ⟨d, h1, h2⟩ := r.get hx
  exact ⟨F1, d, h1, Fr.refl, e1, fun _ _ h => h, fun _ _ h => h, h2.ex e⟩
theorem walkD_tup (h : SqT B.K F a vs) (r : RepL B F vs ds) : WalkD B (Itt B.K a) ds F := by
  have w := walk_tup (K := B.K) (a := a) (xs := vs)
  rw [r.length] at w
  refine ⟨fun i H hi e => w.goes i H hi (ex_t e h), fun H e => w.stops H (ex_t e h), fun i H F1 x H' hi e e1 y => ?_⟩
  obtain ⟨rfl, hx⟩ := w.yields i H x H' hi (ex_t (e.trans e1) h) y
  obtain ⟨d, h1, h2⟩ := r.get hx
  exact ⟨F1, d, h1, Fr.refl, e1, fun _ _ h => h, fun _ _ h => h, h2.ex e⟩
theorem walkD_str (z : Str) : WalkD B (Its z) (z.cps.toList.map fun c => .str [c]) F := by
  have w := walk_str (z := z)
  have hl : (z.cps.toList.map fun c => (D.str [c])).length = z.cps.size := by simp
  refine ⟨fun i H hi e => w.goes i H (by rw [← hl]; exact hi) trivial, fun H e => by rw [hl]; exact w.stops H trivial, fun i H F1 x H' hi e e1 y => ?_⟩
  obtain ⟨rfl, c, hc, rfl⟩ := w.yields i H x H' (by rw [← hl]; exact hi) trivial y
  refine ⟨F1, .str [c], ?_, Fr.refl, e1, fun _ _ h => h, fun _ _ h => h, str_rep _ (by simp)⟩
  rw [List.getElem?_map, Array.getElem?_toList, hc]
  rfl
theorem rangeL_len : ∀ (n : Nat) (lo : Int), (rangeL lo n).length = n
  | 0, _ => rfl
  | n + 1, lo => by simp [rangeL, rangeL_len n]
theorem rangeL_at : ∀ (n : Nat) (lo : Int) (i : Nat), i < n → (rangeL lo n)[i]? = some (.int (lo + i))
  | n + 1, lo, 0, _ => by simp [rangeL]
  | n + 1, lo, i + 1, h => by
    simp only [rangeL, List.getElem?_cons_succ]
    rw [rangeL_at n (lo + 1) i (by omega)]
    congr 2
    omega
theorem walkD_range (lo : Int) (n : Nat) : WalkD B (Itr lo n) (rangeL lo n) F := by
  have w := walk_range (lo := lo) (n := n)
  refine ⟨fun i H hi e => w.goes i H (by rw [rangeL_len] at hi; exact hi) trivial, fun H e => by rw [rangeL_len]; exact w.stops H trivial, fun i H F1 x H' hi e e1 y => ?_⟩
  rw [rangeL_len] at hi
  obtain ⟨rfl, rfl⟩ := w.yields i H x H' hi trivial y
  exact ⟨F1, _, rangeL_at n lo i hi, Fr.refl, e1, fun _ _ h => h, fun _ _ h => h, .int _⟩
theorem enumL_len : ∀ (k : Int) (ds : List D), (enumL k ds).length = ds.length
  | _, [] => rfl
  | k, d :: ds => by simp [enumL, enumL_len (k + 1) ds]
theorem enumL_at : ∀ (k : Int) (ds : List D) (i : Nat) (d : D), ds[i]? = some d → (enumL k ds)[i]? = some (.tup [.int (k + i), d])
  | _, [], i, _, h => by simp at h
  | k, x :: ds, 0, d, h => by simp at h; subst h; simp [enumL]
  | k, x :: ds, i + 1, d, h => by
    simp only [enumL, List.getElem?_cons_succ]
    rw [enumL_at (k + 1) ds i d (by simpa using h)]
    congr 4
    omega
theorem zipL_len : ∀ (xs ys : List D), (zipL xs ys).length = min xs.length ys.length
  | [], _ => by simp [zipL]
  | _ :: _, [] => by simp [zipL]
  | x :: xs, y :: ys => by simp only [zipL, List.length_cons, zipL_len xs ys]; omega
theorem zipL_at : ∀ (xs ys : List D) (i : Nat) (x y : D), xs[i]? = some x → ys[i]? = some y → (zipL xs ys)[i]? = some (.tup [x, y])
  | [], _, i, _, _, h, _ => by simp at h
  | _ :: _, [], i, _, _, _, h => by simp at h
  | a :: xs, b :: ys, 0, x, y, h, h2 => by simp at h h2; subst h; subst h2; simp [zipL]
  | a :: xs, b :: ys, i + 1, x, y, h, h2 => by
    simp only [zipL, List.getElem?_cons_succ]
    exact zipL_at xs ys i x y (by simpa using h) (by simpa using h2)
/-- a new pair -/
theorem pair_new {F F1 H : Hp} {T : Addr} {x y : V} {d e : D} (e1 : Ex F1 H) (hT : H T = none) (r : Rep B F1 x d) (r2 : Rep B F1 y e) :
    Fr (fun _ => False) F1 H (upd F1 T (.tup [x, y])) (upd H T (.tup [x, y])) ∧ Ex (upd F1 T (.tup [x, y])) (upd H T (.tup [x, y])) ∧ (∀ b o, H b = some o → upd H T (.tup [x, y]) b = some o) ∧
      (∀ b ps, upd F1 T (.tup [x, y]) b = some (.tbl ps) → F1 b = some (.tbl ps)) ∧ Rep B (upd F1 T (.tup [x, y])) (.ref T) (.tup [d, e]) := by
  have f := fr_new (F := F1) (o := .tup [x, y]) hT e1
  exact ⟨f, ex_new e1, up_new hT, nt_new fun _ z => (nomatch z), .tup (.inl (.inl upd_same)) (.cons (r.ex f.ext) (.cons (r2.ex f.ext) .nil))⟩
theorem walkD_enum (h : SqL B.K F a vs) (r : RepL B F vs ds) : WalkD B (Ite B.K a) (enumL 0 ds) F := by
  have w := walk_enum (K := B.K) (a := a) (xs := vs)
  rw [r.length] at w
  refine ⟨fun i H hi e => w.goes i H (by rw [enumL_len] at hi; exact hi) (ex_l e h), fun H e => by rw [enumL_len]; exact w.stops H (ex_l e h), fun i H F1 x H' hi e e1 y => ?_⟩
  rw [enumL_len] at hi
  obtain ⟨T, x1, x2, rfl, h1, rfl, h2, h3⟩ := w.yields i H x H' hi (ex_l (e.trans e1) h) y
  obtain ⟨d, h4, h5⟩ := r.get h3
  cases h2
  obtain ⟨q1, q2, q3, q4, q5⟩ := pair_new (F := F) e1 h1 (.int (i : Int)) (h5.ex e)
  refine ⟨_, _, enumL_at 0 ds i d h4, q1, q2, q3, q4, ?_⟩
  have z : (0 : Int) + (i : Int) = (i : Int) := Int.zero_add _
  rw [z]
  exact q5
theorem walkD_zip (h : SqL B.K F a vs) (r : RepL B F vs ds) (h2 : SqL B.K F b ws) (r2 : RepL B F ws es) : WalkD B (Itz B.K a b) (zipL ds es) F := by
  have w := walk_zip (K := B.K) (a := a) (b := b) (xs := vs) (ys := ws) (n := min vs.length ws.length) rfl
  rw [r.length, r2.length, ← zipL_len] at w
  refine ⟨fun i H hi e => w.goes i H hi ⟨ex_l e h, ex_l e h2⟩, fun H e => w.stops H ⟨ex_l e h, ex_l e h2⟩, fun i H F1 x H' hi e e1 y => ?_⟩
  obtain ⟨T, x1, x2, rfl, p1, rfl, p2, p3⟩ := w.yields i H x H' hi ⟨ex_l (e.trans e1) h, ex_l (e.trans e1) h2⟩ y
  obtain ⟨d, h4, h5⟩ := r.get p2
  obtain ⟨d2, h6, h7⟩ := r2.get p3
  obtain ⟨q1, q2, q3, q4, q5⟩ := pair_new (F := F) e1 p1 (h5.ex e) (h7.ex e)
  exact ⟨_, _, zipL_at ds es i d d2 h4 h6, q1, q2, q3, q4, q5⟩
theorem walk_zipT {K : PySem.W.Frag} {xs ys : List V} {n : Nat} (hn : n = min xs.length ys.length) : Walk (RZ.ItzT K a b) n (fun H => SqT K H a xs ∧ SqT K H b ys) (YPair (fun i => xs[i]?) (fun i => ys[i]?)) := by
  subst hn
  refine ⟨fun i _ hi q => ?_, fun _ q => ⟨xs, ys, q.1, q.2, by omega⟩, fun i H v H' _ q y => ?_⟩
  · have h1 : i < xs.length := by omega
    have h2 : i < ys.length := by omega
    exact ⟨xs, ys, xs[i], ys[i], q.1, q.2, by simp [h1], by simp [h2]⟩
  · obtain ⟨T, x, z, h1, h2, h3, h4, h5⟩ := y
    exact ⟨T, x, z, h1, h2, h3, h4 xs q.1, h5 ys q.2⟩
theorem walkD_zipT (h : SqT B.K F a vs) (r : RepL B F vs ds) (h2 : SqT B.K F b ws) (r2 : RepL B F ws es) : WalkD B (RZ.ItzT B.K a b) (zipL ds es) F := by
  have w := walk_zipT (K := B.K) (a := a) (b := b) (xs := vs) (ys := ws) (n := min vs.length ws.length) rfl
  rw [r.length, r2.length, ← zipL_len] at w
  refine ⟨fun i H hi e => w.goes i H hi ⟨ex_t e h, ex_t e h2⟩, fun H e => w.stops H ⟨ex_t e h, ex_t e h2⟩, fun i H F1 x H' hi e e1 y => ?_⟩
  obtain ⟨T, x1, x2, rfl, p1, rfl, p2, p3⟩ := w.yields i H x H' hi ⟨ex_t (e.trans e1) h, ex_t (e.trans e1) h2⟩ y
  obtain ⟨d, h4, h5⟩ := r.get p2
  obtain ⟨d2, h6, h7⟩ := r2.get p3
  obtain ⟨q1, q2, q3, q4, q5⟩ := pair_new (F := F) e1 p1 (h5.ex e) (h7.ex e)
  exact ⟨_, _, zipL_at ds es i d d2 h4 h6, q1, q2, q3, q4, q5⟩
end

/-- what is walked, as the interpreter tells it -/
def GI (B : Tb) (W : WX) (f : Env → Res (List D)) : TI := fun σ H R => ∃ F env, SR B F H σ env ∧ Tell B W σ (f env) F H env (fun xs env' F' H' => ∀ J, WalkD B J xs F' → R J H')
section
variable {B : Tb} {X : Cx} {tg e : Expr} {te : TE}
/-- a list, a tuple, a text -/
theorem pi_any (O : XOk B X) (he : PE X e te) : PI X tg e (fun σ H R => te σ H fun v H1 => ∃ F xs, (∃ d, Rep B F v d ∧ seqOf d = some xs) ∧ Ex F H1 ∧ ∀ J, WalkD B J xs F → R J H1) := by
  refine ⟨fun pins s σ H R I h => ?_⟩
  refine thn (he.run pins s σ H _ I h) fun v s1 ⟨x, H1, I1, r1, q1⟩ => ?_
  obtain ⟨F, xs, ⟨d, rep, es⟩, ex, q⟩ := q1
  cases d with
  | lst ds =>
    cases es
    cases rep with
    | lst hq rr =>
      rename_i a vs
      cases r1
      have hq1 : SqL X.K H1 a vs := by rw [O.K]; exact ex_l ex hq
      obtain ⟨its, rv, p, hz⟩ := I1.list hq1
      refine wpAny_pyIter_list p.isList ?_
      refine ⟨s1.heap.objs.size, [s1.heap.objs.size], _, _, H1, rfl, I1.kept (t' := s1.toks) fun b o e => Heap.get?_push_of_some _ e, turn_list a _, ⟨_, Heap.get?_push_size _ rfl, rfl, rfl⟩, fun b hb => ?_, q _ (by rw [O.K]; exact walkD_list hq rr)⟩
      have e : b = s1.heap.objs.size := by simpa using hb
      subst e
      exact I1.fpOk (Nat.le_refl _) (I1.hok.fresh (Nat.le_refl _))
  | tup ds =>
    cases es
    cases rep with
    | tup hq rr =>
      rename_i a vs
      cases r1
      have hq1 : SqT X.K H1 a vs := by rw [O.K]; exact ex_t ex hq
      obtain ⟨its, rv, p, hz⟩ := I1.tuple hq1
      refine wpAny_pyIter_tuple (show s1.heap.IsTuple a its.toArray from p) ?_
      refine ⟨s1.heap.objs.size, [s1.heap.objs.size], _, _, H1, rfl, I1.kept (t' := s1.toks) fun b o e => Heap.get?_push_of_some _ e, turn_tuple a _, ⟨_, Heap.get?_push_size _ rfl, rfl, rfl⟩, fun b hb => ?_, q _ (by rw [O.K]; exact walkD_tup hq rr)⟩
      have e : b = s1.heap.objs.size := by simpa using hb
      subst e
      exact I1.fpOk (Nat.le_refl _) (I1.hok.fresh (Nat.le_refl _))
  | str s =>
    cases es
    cases rep with
    | str x =>
      obtain ⟨t, rfl⟩ := r1
      have q := q _ (walkD_str x)
      cases ha : x.cps.all (· < 128)
      · exact wpAny_pyIter_wide ha (pi_one (tk := s1.toks) I1 _ (turn_str _ x t "str_iterator" (.inr rfl)) ⟨_, Heap.get?_push_size _ rfl, rfl, rfl⟩ q)
      · exact wpAny_pyIter_ascii ha (pi_one (tk := s1.toks) I1 _ (turn_str _ x t "str_ascii_iterator" (.inl rfl)) ⟨_, Heap.get?_push_size _ rfl, rfl, rfl⟩ q)
  | _ => cases es
end
end Py
end
section
set_option Elab.async false
set_option linter.all false
set_option maxRecDepth 100000
set_option maxHeartbeats 4000000
/-! Py over HandS: the syntax beside the interpreter's text. -/
namespace Py
open PySem PySem.Spec PyProof.Rows L2

/-- the program's names -/
structure Prg where
  cn : Nat → Str
  fn : Nat → Str
  gn : Nat → Str
  nm : Nat → Str
  en : Nat → Str
  wn : Nat → Str
  nf : Nat
  ng : Nat
  ne : Nat
  nw : Nat
  cls : List Nat
/-- a block: its scope, which names it may store as cells -/
structure Bk where
  sc : Scope
  cells : Str → Bool
  words : Bool
/-- a comprehension's block -/
def blkB (k : Bk) (scope : Scope) : Bk := ⟨relS scope k.sc, fun x => scope.names.lookup x == some .cell, false⟩
def visB (sc : Scope) (x : Str) : Bool := match sc.names.lookup x with
  | some .local => true
  | some .cell => true
  | some .free => true
  | _ => false
/-- a name that is read -/
def nameB (N : List Str) (sc : Scope) (i : Nat) : Expr → Bool
  | .Name x _ => decide (N[i]? = some x) && visB sc x && !(x == ("__debug__" : Str)) && !(x == ("__classdict__" : Str))
  | _ => false
/-- a name that is stored -/
def storeB (N : List Str) (k : Bk) (i : Nat) : Expr → Bool
  | .Name x _ => decide (N[i]? = some x) && (match k.sc.names.lookup x with
    | some .local => true
    | some .cell => k.cells x
    | _ => false)
  | _ => false
mutual
def chkTg (N : List Str) (k : Bk) : Tg → Expr → Bool
  | .name i, e => storeB N k i e
  | .tup ts, .Tuple es _ _ => chkTgs N k ts es
  | .tup _, _ => false
def chkTgs (N : List Str) (k : Bk) : Tgs → List Expr → Bool
  | .nil, [] => true
  | .cons t ts, e :: es => chkTg N k t e && noStar e && chkTgs N k ts es
  | _, _ => false
end
mutual
def tgSlots : Tg → List Nat
  | .name i => [i]
  | .tup ts => tgsSlots ts
def tgsSlots : Tgs → List Nat
  | .nil => []
  | .cons t ts => tgSlots t ++ tgsSlots ts
end
def isTupE : Expr → Bool
  | .Tuple _ _ _ => true
  | _ => false
def tyKnownB (cls : List Nat) : Ty → Bool
  | .own c => cls.contains c
  | _ => true
def opKnown (cls : List Nat) : Op → Bool
  | .isi us => us.all (tyKnownB cls)
  | _ => true
def noBor : E → Bool
  | .bor _ => false
  | _ => true
def noBors : Es → Bool
  | .nil => true
  | .cons e es => noBor e && noBors es
/-- may be a test -/
def tOk : E → Bool
  | .bor _ => false
  | .ite _ _ _ => false
  | _ => true
def tOks : Es → Bool
  | .nil => true
  | .cons e es => tOk e && tOks es
def oneT : Es → Bool
  | .nil => true
  | .cons e .nil => tOk e
  | _ => false
def noSet : Expr → Bool
  | .Set _ _ _ => false
  | _ => true
def ownN (N : List Str) (own : List Nat) : List (Str × Nat) := own.map fun i => (N.getD i "", i)
mutual
def chkE (P : Prg) (N : List Str) (k : Bk) : E → Expr → Bool
  | .non, .Constant .none _ _ => true
  | .bl b, .Constant (.bool c) _ _ => b == c
  | .int i, .Constant (.int j) _ _ => i == j
  | .str s, .Constant (.str x) _ _ => x.cps.toList == s
  | .var i, e => nameB N k.sc i e
  | .bor i, e => nameB N k.sc i e
  | .glb g, .Name x _ => isGl k.sc x (P.gn g) && decide (g < P.ng)
  | .op o es, e => opKnown P.cls o && (match cmpOf o with
    | some c => (match e with
      | .Compare a [c'] [b] _ => decide (c' = c) && chkEs P N k es [a, b]
      | _ => false)
    | none => match opAst P.cn k.sc o e with
      | some as => chkEs P N k es as
      | none => false)
  | .and es, .BoolOp .And vs _ => chkEs P N k es vs && tOks es
  | .or es, .BoolOp .Or vs _ => chkEs P N k es vs && tOks es
  | .not a, .UnaryOp .Not x _ => chkE P N k a x && tOk a
  | .ite c a b, .IfExp t x y _ => chkE P N k c t && chkE P N k a x && chkE P N k b y && tOk c && noBor a && noBor b
  | .ch o1 o2 a b c, .Compare x [c1, c2] [y, z] _ => decide (cmpOf o1 = some c1) && decide (cmpOf o2 = some c2) && chkE P N k a x && chkE P N k b y && chkE P N k c z && noBor a && noBor b && noBor c
  | .sl a lo hi, .Subscript x (.Slice l h none _) _ => chkE P N k a x && (match lo, l with
    | .non, none => true
    | .non, some _ => false
    | lo, some y => chkE P N k lo y && noBor lo
    | _, none => false) && (match hi, h with
    | .non, none => true
    | .non, some _ => false
    | hi, some y => chkE P N k hi y && noBor hi
    | _, none => false)
  | .tup es, .Tuple xs _ _ => chkEs P N k es xs
  | .lst es, .List xs _ => chkEs P N k es xs
  | .dnew, .Dict [] [] _ => true
  | .call f es, .Call (.Name x _) as [] _ => isGl k.sc x (P.fn f) && decide (f < P.nf) && chkEs P N k es as && !(x == ("__debug__" : Str))
  | .word f e, .Call (.Name x _) [.Lambda ⟨[], [], none, [], [], none, []⟩ body scope _] [] _ =>
    isGl k.sc x (P.wn f) && decide (f < P.nw) && k.words && LamX.lamSB k.sc scope && chkE P N ⟨scope, fun _ => false, false⟩ e body && noBor e && !(x == ("__debug__" : Str))
  | .lc tg own it cs e, .ListComp elt [⟨t, iter, ifs, 0⟩] scope _ =>
    blkC N k.sc scope (ownN N own) && chkIt P N k it iter t && chkTg N (blkB k scope) tg t && (tgSlots tg).all own.contains && chkEs P N (blkB k scope) cs ifs && chkE P N (blkB k scope) e elt && noBor e && oneT cs && noSet iter
  | _, _ => false
def chkEs (P : Prg) (N : List Str) (k : Bk) : Es → List Expr → Bool
  | .nil, [] => true
  | .cons e es, x :: xs => chkE P N k e x && noStar x && chkEs P N k es xs
  | _, _ => false
def chkIt (P : Prg) (N : List Str) (k : Bk) : It → Expr → Expr → Bool
  | .seq e, x, _ => chkE P N k e x && noBor e
  | .range es, .Call (.Name x _) as [] _, _ => isGl k.sc x "range" && chkEs P N k es as && noBors es && decide (as.length ≤ 2)
  | .enum e, .Call (.Name x _) [a] [] _, t => isGl k.sc x "enumerate" && chkE P N k e a && noStar a && isTupE t && noBor e
  | .zip a b, .Call (.Name x _) [u, v] [] _, t => isGl k.sc x "zip" && chkE P N k a u && chkE P N k b v && noStar u && noStar v && isTupE t && noBor a && noBor b
  | _, _, _ => false
end

/-! ### where one stands -/
structure Sk (B : Tb) (P : Prg) (G : Cfg) (X : Cx) : Prop where
  O : XOk B X
  CN : CnOk B X P.cn
  cls : ∀ c ∈ P.cls, c ∈ B.cls
  gl : ∀ g, g < P.ng → ∃ u v, X.mg (P.gn g) = some u ∧ RelV v u ∧ (∀ F, Rep B F v (G.gl g)) ∧ (P.gn g == ("__debug__" : Str)) = false
  fn : ∀ f, f < P.nf → ∃ j a fd ps, X.mg (P.fn f) = some (.ref a) ∧ PySem.W.keepIn X.K (.ref a) = true ∧ L2.Binds X.K fd ps [] ∧ Room j X.A ∧ FnOk X.prog X.w X.K X.mg X.base (L2.CX X.prog X.w) j a fd ps (spI B (G.call f))
  er : ∀ c, c < P.ne → (P.en c == ("__debug__" : Str)) = false ∧ X.mg (P.en c) = some (.ref (B.ca c)) ∧ L2.OexC X.K (B.ca c) ∧
    ∃ fI j fd, PySem.W.findIn X.K (.ref (B.ca c)) "__init__" = some (some (.ref fI)) ∧ PySem.W.typeIn X.K (.ref fI) = some (.type "function") ∧ Room (j + 1) X.A ∧ L2.Binds X.K fd ["self"] [] ∧
      FnOk X.prog X.w X.K X.mg X.base (L2.CX X.prog X.w) j fI fd ["self"] (fun vs H Q _ => ∃ a, vs = [.ref a] ∧ H a = some (L2.exo a (B.ca c) none) ∧ Q .non H)
/-- what a word's def makes of what its lambda tells -/
def TTw (B : Tb) (idx : Nat → Option Nat) (tl : XK → Hp → VK → Prop) (H : Hp) (Q : VK) : Prop := ∀ T0, H T0 = none →
  tl (fun cls dd H' => ∃ c i, cls = .ref (B.ca c) ∧ dd = none ∧ idx c = some i ∧ ∀ L bs p, H' L = none → upd H' L (.lst bs) p = none → Q (.ref p) (upd (upd H' L (.lst bs)) p (.tup [.int (i : Nat)])))
    (upd H T0 (.tup [.str "other"])) (fun v H' => ∀ p, H' p = none → Q (.ref p) (upd H' p (.tup [.str "told", v])))
/-- a word's def -/
structure WordF (B : Tb) (X : Cx) (x : Str) (idx : Nat → Option Nat) : Prop where
  ex : ∃ (g : Addr) (pg : Arguments) (bg : List Stmt) (sg : Scope) (dV kV doc pm cdv ct oc : Value) (an od : Option Addr) (osl : Array (Option Value)) (Ng : List Str) (a : Str), X.mg x = some (.ref g) ∧ PySem.W.keepIn X.K (.ref g) = true ∧
    X.K.lookup g = some ⟨oc, od, .func (PySem.W.fnOf x x pg bg sg dV kV doc pm an cdv ct), osl⟩ ∧ PySem.W.codeIn X.K cdv x = true ∧ L2.Binds X.K (PySem.W.fnOf x x pg bg sg dV kV doc pm an cdv ct) [a] [] ∧ FnScope Ng [a] sg ∧ Ng[0]? = some a ∧ Vis sg a ∧
    (a == ("__debug__" : Str)) = false ∧ (a == ("__classdict__" : Str)) = false ∧ ∀ q, LamX.GivesTo X Ng x sg g cdv bg a q (TTw B idx)
/-- where lambdas are made -/
structure WdF (B : Tb) (P : Prg) (G : Cfg) (X : Cx) : Prop where
  tab : ∃ c P', LamX.TabB X.base X.mg c P' ∧ X.env.code = .ref c ∧ (P', X.env.qual ++ "<lambda>") ∈ B.T ∧ ∀ p ∈ B.T, p.1 = P' → p.2 = X.env.qual ++ "<lambda>"
  room : ∃ k, Room (k + 2) X.A ∧ ∀ (A : Around) (outer : List PySem.Env) (s : Shared) (H : Hp) (E : XK) (scope : Scope) (f c' : Addr), Room k (A.deeper (LamX.lamEnv X scope s.heap.objs.size f c')) → Sk B P G (LamX.lamCx X A outer s H E scope f c')
  wds : ∀ f, f < P.nw → WordF B X (P.wn f) (G.flag f)
structure At (B : Tb) (P : Prg) (G : Cfg) (N : List Str) (k : Bk) (W : WX) (X : Cx) : Prop where
  S : Sk B P G X
  hN : X.N = N
  hs : X.env.scope = k.sc
  hc : ∀ x, k.cells x = true → X.fn x = true
  tk : Takes X W
  wd : k.words = true → WdF B P G X
section
variable {B : Tb} {P : Prg} {G : Cfg} {N : List Str} {k : Bk} {W : WX} {X : Cx} {σ : L2.St} {F H : Hp} {env : Env}
theorem args_rep : ∀ {es : Es} {vs : List V} {ds : List D}, bors es = [] → ArgsR B F σ es vs ds → RepL B F vs ds
  | .nil, [], [], _, _ => .nil
  | .cons e es, v :: vs, d :: ds, hb, ⟨h, r⟩ => by
    unfold bors at hb
    cases q : isBor e with
    | some i => rw [q] at hb; cases hb
    | none =>
      rw [q] at h hb
      exact .cons h (args_rep hb r)
theorem nobor_is {e : E} (h : noBor e = true) : isBor e = none := by
  cases e <;> first | rfl | cases h
theorem ga_ge {e : E} (h : noBor e = true) : GA B W G e = GE B W (evalE G e) := by
  unfold GA
  rw [nobor_is h]
theorem ge_mono (f : Env → Res D) : Mono (GE B W f) := fun σ H Q Q' h ⟨F, env, S, t⟩ => ⟨F, env, S, t.mono fun _ _ _ _ _ _ _ q v hv => h _ _ (q v hv)⟩
theorem ga_mono (e : E) : Mono (GA B W G e) := by
  unfold GA
  cases q : isBor e with
  | some i => exact fun σ H Q Q' h ⟨v, e, w⟩ => ⟨v, e, h _ _ w⟩
  | none => exact ge_mono _
/-- a callee's promise, from where one stands -/
theorem call_sp (S : SR B F H σ env) {es : Es} {vs : List V} {ds : List D} (a : ArgsR B F σ es vs ds) {f : Nat} {Q : VK}
    (t : match callR G f es (.ok ds env) with
      | .ok o env' => ∀ v F' H', Fr (Ow env σ) F H F' H' → SR B F' H' σ env' → (∀ b, Ow env' σ b → Ow env σ b) → OutR B F' H' σ env' v o → (isOwn o = true → ∀ p, v = .ref p → Ow env σ p ∨ Nz H p) → Q v H'
      | .exc c ds env' => ∀ F' H' dd, Fr (Ow env σ) F H F' H' → SR B F' H' σ env' → (∀ b, Ow env' σ b → Ow env σ b) → ExcR B F' H' c ds dd → W (.ref (B.ca c)) dd σ H'
      | .stuck => False) : spI B (G.call f) vs H Q (WE W σ) := by
  simp only [callR] at t
  by_cases nd : (bors es).Nodup
  · rw [if_pos nd] at t
    refine ⟨F, fillO es ds env, args_sr S a nd, ?_⟩
    cases z : G.call f (fillO es ds env) with
    | stuck => rw [z] at t; exact t
    | ret o fin =>
      rw [z] at t
      intro v F' H' fr s' ow out np
      obtain ⟨b1, b2, b3, b4⟩ := call_back S a nd fr s' ow
      obtain ⟨o1, o2, o3⟩ := out
      refine t v F' H' b1 b2 b3 ⟨o1, o2, fun ho p hv q => ?_⟩ fun ho p hv => ?_
      · rcases b4 p q with q | ⟨q1, q2⟩
        · exact o3 ho p hv q
        · rcases np ho p hv with z | z
          · exact q2 z
          · exact (S.free q1).2 z
      · rcases np ho p hv with z | z
        · obtain ⟨i, _, h1, h2⟩ := args_ow S a z
          exact .inl ⟨i, h1, h2⟩
        · exact .inr z
    | exc c xs fin =>
      rw [z] at t
      intro F' H' dd fr s' ow er
      obtain ⟨b1, b2, b3, _⟩ := call_back S a nd fr s' ow
      exact t F' H' dd b1 b2 b3 er
  · rw [if_neg nd] at t
    exact t.elim
/-- a value's call -/
theorem call_ge {f : Nat} {es : Es} {Q : VK} (h : GE B W (evalE G (.call f es)) σ H Q) : nest (GAs B W G es) σ H (fun vs H1 => spI B (G.call f) vs H1 Q (WE W σ)) := by
  obtain ⟨F, env, S, t⟩ := h
  rw [evalE] at t
  cases z : evalEs G es env with
  | stuck => rw [z] at t; exact t.elim
  | exc c xs env' =>
    refine nest_of es F H env _ S ?_
    rw [z] at t ⊢
    exact t
  | ok ds env1 =>
    refine nest_of es F H env _ S ?_
    rw [z] at t ⊢
    intro F1 H1 f1 s1 o1 vs hvs
    refine call_sp s1 hvs ?_
    have t : Tell B W σ (valR (callR G f es (.ok ds env1))) F H env _ := t
    have t := Tell.from_ t f1 o1
    cases y : callR G f es (.ok ds env1) with
    | stuck => rw [y] at t; exact t
    | exc c xs env' => rw [y] at t; exact t
    | ok o env' =>
      rw [y] at t
      intro v F' H' fr s' ow out np
      cases q : frz o with
      | none => simp only [valR, q] at t; exact t.elim
      | some d =>
        simp only [valR, q] at t
        obtain ⟨F2, e1, e2, s2, r⟩ := freeze_out s' out q
        refine t F2 H' ⟨fr.ext.trans e1, fun b h1 h2 => ?_, fr.keep, fr.there⟩ s2 ow v r
        cases w : F' b with
        | none =>
          obtain ⟨ho, hv⟩ := e2 b w h2
          exact np ho b hv
        | some u => exact fr.new b h1 (by rw [w]; simp)
end
end Py
end
section
set_option Elab.async false
set_option linter.all false
set_option maxRecDepth 100000
set_option maxHeartbeats 4000000
/-! Py over HandS: expressions, case by case. -/
namespace Py
open PySem PySem.Spec PyProof.Rows L2

section
variable {B : Tb} {F H : Hp} {σ : L2.St} {env : Env}
theorem getS_set (env : Env) (i j : Nat) (o : O) : getS (setS env i o) j = if i = j ∧ i < env.length then o else getS env j := by
  by_cases h : i = j
  · subst h
    by_cases hi : i < env.length
    · rw [if_pos ⟨rfl, hi⟩, getS_set_self hi]
    · rw [if_neg (fun z => hi z.2), getS_set_out (by omega)]
  · rw [if_neg (fun z => h z.1), getS_set_ne h]
theorem setS_set : ∀ (env : Env) (i : Nat) (o o' : O), setS (setS env i o) i o' = setS env i o'
  | [], _, _, _ => rfl
  | _ :: _, 0, _, _ => rfl
  | a :: l, i + 1, o, o' => by simp [setS_set l i o o']
theorem ow_drop {i : Nat} {o : O} (ho : isOwn o = false) {b : Addr} (h : Ow (setS env i o) σ b) : Ow env σ b := by
  obtain ⟨j, h1, h2⟩ := h
  rw [getS_set] at h1
  split at h1
  · rw [ho] at h1; cases h1
  · exact ⟨j, h1, h2⟩
/-- what the slots hold, but one that is forgotten -/
theorem sr_drop (S : SR B F H σ env) (i : Nat) : SR B F H σ (setS env i .un) := by
  refine ⟨S.ext, S.tab, S.notab, by rw [setS_length]; exact S.len, fun j => ?_, fun j k p h1 h2 h3 h4 => ?_⟩
  · rw [getS_set]
    split
    · trivial
    · exact S.slot j
  · rw [getS_set] at h1 h2
    split at h1
    · cases h1
    · split at h2
      · cases h2
      · exact S.apart j k p h1 h2 h3 h4
theorem out_slot (S : SR B F H σ env) {i : Nat} {v : V} (hv : σ[i]? = some (some v)) (hu : getS env i ≠ .un) : OutR B F H σ (setS env i .un) v (getS env i) := by
  have sl := S.slot i
  rw [hv] at sl
  refine ⟨sl, hu, fun ho p hp q => ?_⟩
  subst hp
  obtain ⟨j, h1, h2⟩ := q
  have hi := S.lt (i := i) rfl hu
  rw [getS_set] at h1
  split at h1
  · cases h1
  · rename_i z
    exact z ⟨S.apart i j p ho h1 hv h2, hi⟩
/-- a store -/
theorem sr_store (S : SR B F H σ env) {i : Nat} {v : V} {o : O} (hi : i < env.length) (h : OutR B F H σ (setS env i .un) v o) : SR B F H (σ.set i (some v)) (setS env i o) := by
  have hi' : i < σ.length := by rw [← S.len]; exact hi
  have hs : ∀ j, (σ.set i (some v))[j]? = if i = j then some (some v) else σ[j]? := fun j => by
    rw [List.getElem?_set]
    split
    · rename_i e; subst e; first | rfl | rw [if_pos hi']
    · rfl
  have hg : ∀ j, getS (setS env i o) j = if i = j then o else getS env j := fun j => by
    rw [getS_set]
    by_cases e : i = j
    · rw [if_pos ⟨e, hi⟩, if_pos e]
    · rw [if_neg (fun z => e z.1), if_neg e]
  refine ⟨S.ext, S.tab, S.notab, by rw [setS_length, List.length_set]; exact S.len, fun j => ?_, fun j k p h1 h2 h3 h4 => ?_⟩
  · rw [hs, hg]
    split
    · exact h.1
    · exact S.slot j
  · rw [hs] at h3 h4
    rw [hg] at h1 h2
    have key : ∀ k, i ≠ k → isOwn (getS env k) = true → σ[k]? = some (some (V.ref p)) → Ow (setS env i .un) σ p := fun k hk h1 h2 => ⟨k, by rw [getS_set_ne hk]; exact h1, h2⟩
    by_cases ej : i = j
    · rw [if_pos ej] at h1 h3
      by_cases ek : i = k
      · exact ej.symm.trans ek
      · rw [if_neg ek] at h2 h4
        cases h3
        exact absurd (key k ek h2 h4) (h.2.2 h1 p rfl)
    · rw [if_neg ej] at h1 h3
      by_cases ek : i = k
      · rw [if_pos ek] at h2 h4
        cases h4
        exact absurd (key j ej h1 h3) (h.2.2 h2 p rfl)
      · rw [if_neg ek] at h2 h4
        exact S.apart j k p h1 h2 h3 h4
theorem set_same {i : Nat} {v : V} (h : σ[i]? = some (some v)) : σ.set i (some v) = σ := by
  obtain ⟨hi, e⟩ := List.getElem?_eq_some_iff.mp h
  rw [← e]
  exact List.set_getElem_self hi
theorem out_v {v : V} {d : D} (r : Rep B F v d) : OutR B F H σ env v (.v d) := ⟨⟨v, rfl, r⟩, (fun z => nomatch z), fun z => by cases z⟩
theorem out_less {env' : Env} {v : V} {o : O} (h : OutR B F H σ env v o) (hs : ∀ b, Ow env' σ b → Ow env σ b) : OutR B F H σ env' v o := ⟨h.1, h.2.1, fun ho p hp q => h.2.2 ho p hp (hs p q)⟩
/-- a slot that is read is frozen -/
theorem freeze_slot (S : SR B F H σ env) {i : Nat} {d : D} (e : frz (getS env i) = some d) : ∃ F' v, σ[i]? = some (some v) ∧ Fr (Ow env σ) F H F' H ∧ SR B F' H σ (setS env i (.v d)) ∧ (∀ b, Ow (setS env i (.v d)) σ b → Ow env σ b) ∧ Rep B F' v d := by
  have hu : getS env i ≠ .un := fun z => by rw [z] at e; cases e
  obtain ⟨v, hv⟩ := S.there hu
  have out := out_slot S hv hu
  obtain ⟨F', e1, e2, s1, r⟩ := freeze_out (sr_drop S i) out e
  have hi := S.lt (i := i) rfl hu
  refine ⟨F', v, hv, ⟨e1, fun b h1 h2 => ?_, fun b o h _ _ => h, fun b h => h⟩, ?_, fun b h => ow_drop rfl h, r⟩
  · obtain ⟨ho, hb⟩ := e2 b h1 h2
    subst hb
    exact .inl ⟨i, ho, hv⟩
  · have := sr_store (o := .v d) s1 (i := i) (v := v) (by rw [setS_length]; exact hi) (out_v r)
    rw [setS_set, set_same hv] at this
    exact this
end

section
variable {B : Tb} {P : Prg} {G : Cfg} {N : List Str} {k : Bk} {W : WX} {X : Cx} {σ : L2.St} {H : Hp}
theorem tOk_nb {e : E} (h : tOk e = true) : noBor e = true := by cases e <;> first | rfl | cases h
theorem gt_ge {f : Env → Res D} {Q : Bool → Hp → Prop} (h : GT B W f σ H Q) : GE B W f σ H (fun x H' => ∃ c, x = .bl c ∧ Q c H') := by
  obtain ⟨F, env, S, t⟩ := h
  refine ⟨F, env, S, t.mono fun d env' F' H' _ _ _ ⟨b, e, q⟩ v r => ?_⟩
  subst e
  cases r
  exact ⟨b, rfl, q⟩
theorem gt_mono (f : Env → Res D) {Q Q' : Bool → Hp → Prop} (i : ∀ b H', Q b H' → Q' b H') (h : GT B W f σ H Q) : GT B W f σ H Q' := by
  obtain ⟨F, env, S, t⟩ := h
  exact ⟨F, env, S, t.mono fun d env' F' H' _ _ _ ⟨b, e, q⟩ => ⟨b, e, i _ _ q⟩⟩
/-- a value whose reading is weaker than GE, whose truth is its own -/
structure SE (B : Tb) (W : WX) (G : Cfg) (X : Cx) (e : E) (ast : Expr) : Prop where
  pe : PE X ast (GA B W G e)
  pt : tOk e = true → PT X ast (GT B W (evalE G e))
theorem SE.ge {e : E} {ast : Expr} (h : SE B W G X e ast) (hb : noBor e = true) : PE X ast (GE B W (evalE G e)) := by
  have := h.pe
  rw [ga_ge hb] at this
  exact this
theorem se_of {e : E} {ast : Expr} {t : TE} (hb : noBor e = true) (h : PE X ast t) (i : ∀ σ H Q, GE B W (evalE G e) σ H Q → t σ H Q) (hp : tOk e = true → PT X ast (tB t)) : SE B W G X e ast :=
  ⟨by rw [ga_ge hb]; exact PE.mono h i, fun ht => PT.mono (hp ht) fun σ H Q q => i σ H _ (gt_ge q)⟩
theorem se_val {e : E} {ast : Expr} {t : TE} (hb : noBor e = true) (h : PE X ast t) (i : ∀ σ H Q, GE B W (evalE G e) σ H Q → t σ H Q) (hp : plainT ast = true) : SE B W G X e ast :=
  se_of hb h i fun _ => pt_val h (truth_of hp X.env)
theorem se_tC {e : E} {ast : Expr} {v : V} {d : D} (hb : noBor e = true) (he : ∀ env, evalE G e env = .ok d env) (h : PE X ast (tC v)) (r : ∀ F, Rep B F v d) (hp : plainT ast = true) : SE B W G X e ast :=
  se_val hb h (fun σ H Q ⟨F, env, S, t⟩ => by rw [he] at t; exact t.now S v (r F)) hp

theorem vis_of {sc : Scope} {x : Str} (h : visB sc x = true) : Vis sc x := by
  unfold visB at h
  split at h
  · rename_i e; exact .inl e
  · rename_i e; exact .inr (.inl e)
  · rename_i e; exact .inr (.inr e)
  · cases h
theorem name_pe (A : At B P G N k W X) {i : Nat} {ast : Expr} (h : nameB N k.sc i ast = true) : PE X ast (tVar i) ∧ plainT ast = true := by
  cases ast <;> simp only [nameB] at h <;> try (cases h; done)
  rename_i x p
  simp only [Bool.and_eq_true, decide_eq_true_eq, Bool.not_eq_true'] at h
  obtain ⟨⟨⟨h1, h2⟩, h3⟩, h4⟩ := h
  exact ⟨pe_var (by rw [A.hN]; exact h1) (by rw [A.hs]; exact vis_of h2) h3 h4, rfl⟩
theorem se_var (A : At B P G N k W X) {i : Nat} {ast : Expr} (h : nameB N k.sc i ast = true) : SE B W G X (.var i) ast := by
  obtain ⟨h1, h2⟩ := name_pe A h
  refine se_val rfl h1 (fun σ H Q ⟨F, env, S, t⟩ => ?_) h2
  unfold evalE at t
  cases e : frz (getS env i) with
  | none => rw [e] at t; exact t.elim
  | some d =>
    rw [e] at t
    obtain ⟨F', v, hv, f, s, o, r⟩ := freeze_slot S e
    exact ⟨v, hv, t F' H f s o v r⟩
theorem se_bor (A : At B P G N k W X) {i : Nat} {ast : Expr} (h : nameB N k.sc i ast = true) : SE B W G X (.bor i) ast :=
  ⟨(name_pe A h).1, fun h => by cases h⟩

/-! ### and, or, not, if -/
theorem ge_and {e : E} {es : Es} {Q : VK} {e2 : E} (h : GE B W (evalAnd G (.cons e (.cons e2 es))) σ H Q) : tAndV (GE B W (evalE G e)) (GE B W (evalAnd G (.cons e2 es))) σ H Q := by
  obtain ⟨F, env, S, t⟩ := h
  rw [evalAnd] at t
  refine ⟨F, env, S, t.bind.mono fun d env1 F1 H1 _ s1 _ t1 v r => ?_⟩
  cases d with
  | bl b =>
    cases r
    refine ⟨b, rfl, ?_⟩
    cases b with
    | true => exact ⟨F1, env1, s1, t1⟩
    | false => exact t1.now s1 _ (.bl false)
  | _ => exact t1.elim
theorem gt_and {e : E} {es : Es} {Q : Bool → Hp → Prop} {e2 : E} (h : GT B W (evalAnd G (.cons e (.cons e2 es))) σ H Q) : tAnd (GT B W (evalE G e)) (GT B W (evalAnd G (.cons e2 es))) σ H Q := by
  obtain ⟨F, env, S, t⟩ := h
  rw [evalAnd] at t
  refine ⟨F, env, S, t.bind.mono fun d env1 F1 H1 _ s1 _ t1 => ?_⟩
  cases d with
  | bl b =>
    refine ⟨b, rfl, ?_⟩
    cases b with
    | true => exact ⟨F1, env1, s1, t1⟩
    | false =>
      obtain ⟨c, ec, q⟩ := t1.now s1
      cases ec
      exact q
  | _ => exact t1.elim
theorem ge_or {e : E} {es : Es} {Q : VK} {e2 : E} (h : GE B W (evalOr G (.cons e (.cons e2 es))) σ H Q) : tOrV (GE B W (evalE G e)) (GE B W (evalOr G (.cons e2 es))) σ H Q := by
  obtain ⟨F, env, S, t⟩ := h
  rw [evalOr] at t
  refine ⟨F, env, S, t.bind.mono fun d env1 F1 H1 _ s1 _ t1 v r => ?_⟩
  cases d with
  | bl b =>
    cases r
    refine ⟨b, rfl, ?_⟩
    cases b with
    | false => exact ⟨F1, env1, s1, t1⟩
    | true => exact t1.now s1 _ (.bl true)
  | _ => exact t1.elim
theorem gt_or {e : E} {es : Es} {Q : Bool → Hp → Prop} {e2 : E} (h : GT B W (evalOr G (.cons e (.cons e2 es))) σ H Q) : tOr (GT B W (evalE G e)) (GT B W (evalOr G (.cons e2 es))) σ H Q := by
  obtain ⟨F, env, S, t⟩ := h
  rw [evalOr] at t
  refine ⟨F, env, S, t.bind.mono fun d env1 F1 H1 _ s1 _ t1 => ?_⟩
  cases d with
  | bl b =>
    refine ⟨b, rfl, ?_⟩
    cases b with
    | false => exact ⟨F1, env1, s1, t1⟩
    | true =>
      obtain ⟨c, ec, q⟩ := t1.now s1
      cases ec
      exact q
  | _ => exact t1.elim
theorem ge_one {e : E} {Q : VK} (h : GE B W (evalAnd G (.cons e .nil)) σ H Q) : GE B W (evalE G e) σ H Q := by
  obtain ⟨F, env, S, t⟩ := h
  rw [evalAnd] at t
  exact ⟨F, env, S, t.bind.mono fun d env1 F1 H1 _ s1 _ t1 => t1.now s1⟩
theorem ge_one' {e : E} {Q : VK} (h : GE B W (evalOr G (.cons e .nil)) σ H Q) : GE B W (evalE G e) σ H Q := by
  obtain ⟨F, env, S, t⟩ := h
  rw [evalOr] at t
  exact ⟨F, env, S, t.bind.mono fun d env1 F1 H1 _ s1 _ t1 => t1.now s1⟩
theorem gt_one {e : E} {Q : Bool → Hp → Prop} (h : GT B W (evalAnd G (.cons e .nil)) σ H Q) : GT B W (evalE G e) σ H Q := by
  obtain ⟨F, env, S, t⟩ := h
  rw [evalAnd] at t
  exact ⟨F, env, S, t.bind.mono fun d env1 F1 H1 _ s1 _ t1 => t1.now s1⟩
theorem gt_one' {e : E} {Q : Bool → Hp → Prop} (h : GT B W (evalOr G (.cons e .nil)) σ H Q) : GT B W (evalE G e) σ H Q := by
  obtain ⟨F, env, S, t⟩ := h
  rw [evalOr] at t
  exact ⟨F, env, S, t.bind.mono fun d env1 F1 H1 _ s1 _ t1 => t1.now s1⟩
theorem se_not {a : E} {x : Expr} {pos : Pos} (ha : SE B W G X a x) (ht : tOk a = true) : SE B W G X (.not a) (.UnaryOp .Not x pos) := by
  refine ⟨?_, fun _ => PT.mono (pt_not (ha.pt ht)) fun σ H Q ⟨F, env, S, t⟩ => ?_⟩
  · refine PE.mono (pe_not (ha.ge (tOk_nb ht))) fun σ H Q ⟨F, env, S, t⟩ => ?_
    rw [evalE] at t
    refine ⟨F, env, S, t.bind.mono fun d env1 F1 H1 _ s1 _ t1 v r => ?_⟩
    cases d with
    | bl b => cases r; exact ⟨b, rfl, t1.now s1 _ (.bl _)⟩
    | _ => exact t1.elim
  · rw [evalE] at t
    refine ⟨F, env, S, t.bind.mono fun d env1 F1 H1 _ s1 _ t1 => ?_⟩
    cases d with
    | bl b =>
      obtain ⟨c, ec, q⟩ := t1.now s1
      cases ec
      exact ⟨b, rfl, q⟩
    | _ => exact t1.elim
theorem se_ite {c a b : E} {t x y : Expr} {pos : Pos} (hc : SE B W G X c t) (ha : SE B W G X a x) (hb : SE B W G X b y) (ht : tOk c = true) (na : noBor a = true) (nb : noBor b = true) : SE B W G X (.ite c a b) (.IfExp t x y pos) := by
  refine ⟨PE.mono (pe_ifExp (hc.pt ht) (ha.ge na) (hb.ge nb)) fun σ H Q ⟨F, env, S, t⟩ => ?_, fun h => by cases h⟩
  rw [evalE] at t
  refine ⟨F, env, S, t.bind.mono fun d env1 F1 H1 _ s1 _ t1 => ?_⟩
  cases d with
  | bl b =>
    refine ⟨b, rfl, ?_⟩
    cases b with
    | true => exact ⟨F1, env1, s1, t1⟩
    | false => exact ⟨F1, env1, s1, t1⟩
  | _ => exact t1.elim

/-! ### comparisons, operations -/
theorem mono_ga (e : E) : Mono (GA B W G e) := ga_mono e
theorem se_op (A : At B P G N k W X) {o : Op} {es : Es} {ast : Expr} {as : List Expr} (hk : opKnown P.cls o = true) (h : opAst P.cn k.sc o ast = some as) (ps : PEs X as (GAs B W G es)) : SE B W G X (.op o es) ast := by
  have kn : ∀ us, o = .isi us → ∀ t ∈ us, tyKnown B t := fun us e t ht => by
    subst e
    have hk : us.all (tyKnownB P.cls) = true := hk
    have := (List.all_eq_true.mp hk) t ht
    cases t with
    | own c => exact A.S.cls c (by simpa [tyKnownB] using this)
    | _ => trivial
  obtain ⟨h1, h2, _⟩ := op_ok A.S.O A.S.CN A.hs h kn ps
  exact se_val rfl h1 (fun σ H Q q => op_of q) h2
theorem se_cmp (A : At B P G N k W X) {o : Op} {es : Es} {c : CmpOp} {a b : Expr} {pos : Pos} (h : cmpOf o = some c) (ps : PEs X [a, b] (GAs B W G es)) : SE B W G X (.op o es) (.Compare a [c] [b] pos) := by
  obtain ⟨r, n1, n2⟩ := cmp_ok A.S.O h
  obtain ⟨t, u, e, p1, p2, _⟩ := ps.two
  refine se_of rfl (pe_cmpR r p1 p2 (nomark b n1 n2)) (fun σ H Q q => ?_) fun _ => pt_cmpR r p1 p2 (nomark b n1 n2)
  have := op_of q
  rw [e] at this
  exact this
theorem lastM {c1 c2 : CmpOp} {b c : Expr} (n1 : c1 ≠ .In) (n2 : c1 ≠ .NotIn) (n3 : c2 ≠ .In) (n4 : c2 ≠ .NotIn) : lastMarks [c1, c2] [b, c] = false := by
  have e1 := nomark c n3 n4
  have e2 := nomark b n1 n2
  simp [lastMarks, e1, e2]
end
end Py
end
section
set_option Elab.async false
set_option linter.all false
set_option maxRecDepth 100000
set_option maxHeartbeats 4000000
/-! Py over HandS: chains, displays, calls, slices. -/
namespace Py
open PySem PySem.Spec PyProof.Rows L2
section
variable {B : Tb} {P : Prg} {G : Cfg} {N : List Str} {k : Bk} {W : WX} {X : Cx} {σ : L2.St} {H : Hp}
theorem sr_step {F F' H H' : Hp} {env : Env} (S : SR B F H σ env) (f : Fr (fun _ => False) F H F' H') (ex' : Ex F' H') (up : ∀ b o, H b = some o → H' b = some o) (nt : ∀ b ps, F' b = some (.tbl ps) → F b = some (.tbl ps)) : SR B F' H' σ env :=
  S.keep f ex' (S.tab.ext up) fun b ps e => S.notab b ps (nt b ps e)
theorem se_ch (A : At B P G N k W X) {o1 o2 : Op} {a b c : E} {c1 c2 : CmpOp} {x y z : Expr} {pos : Pos} (h1 : cmpOf o1 = some c1) (h2 : cmpOf o2 = some c2) (ha : SE B W G X a x) (hb : SE B W G X b y) (hc : SE B W G X c z)
    (na : noBor a = true) (nb : noBor b = true) (nc : noBor c = true) : SE B W G X (.ch o1 o2 a b c) (.Compare x [c1, c2] [y, z] pos) := by
  obtain ⟨r1, n1, n2⟩ := cmp_ok A.S.O h1
  obtain ⟨r2, n3, n4⟩ := cmp_ok A.S.O h2
  have pa := ha.ge na
  have pb := hb.ge nb
  have pc := hc.ge nc
  have key : ∀ σ H Q, GE B W (evalE G (.ch o1 o2 a b c)) σ H Q → tChain (R2o B o1) (R2o B o2) (GE B W (evalE G a)) (GE B W (evalE G b)) (GE B W (evalE G c)) σ H Q := fun σ H Q ⟨F, env, S, t⟩ => by
    rw [evalE] at t
    refine ⟨F, env, S, t.bind.mono fun d env1 F1 H1 f1 s1 o1' t1 v rv => ⟨F1, env1, s1, t1.bind.mono fun d2 env2 F2 H2 f2 s2 o2' t2 u ru => ?_⟩⟩
    have rv2 := rv.ex f2.ext
    cases e1 : sem o1 [d, d2] with
    | none => rw [e1] at t2; exact t2.elim
    | some r =>
      rw [e1] at t2
      refine ⟨F2, [d, d2], r, s2.ext, ⟨.inl rv2, .inl ru, trivial⟩, e1, fun w F3 H3 f3 ex3 up3 nt3 rw3 => ?_⟩
      have s3 := sr_step s2 f3 ex3 up3 nt3
      have f3' : Fr (Ow env2 σ) F2 H2 F3 H3 := f3.mono fun _ z => z.elim
      cases r with
      | bl q =>
        cases rw3
        refine ⟨q, rfl, ?_⟩
        cases q with
        | true =>
          have t3 := (Tell.from_ t2 f3' (fun _ z => z)).bind
          refine ⟨F3, env2, s3, t3.mono fun d4 env4 F4 H4 f4 s4 o4 t4 u4 r4 => ?_⟩
          cases e2 : sem o2 [d2, d4] with
          | none => simp only [e2, lift] at t4; exact t4.elim
          | some r' =>
            simp only [e2, lift] at t4
            refine ⟨F4, [d2, d4], r', s4.ext, ⟨.inl ((ru.ex f3.ext).ex f4.ext), .inl r4, trivial⟩, e2, fun w F5 H5 f5 ex5 up5 nt5 rw5 => ?_⟩
            exact t4 F5 H5 (f5.mono fun _ z => z.elim) (sr_step s4 f5 ex5 up5 nt5) (fun _ z => z) w rw5
        | false => exact t2 F3 H3 f3' s3 (fun _ z => z) _ (.bl false)
      | _ => exact t2.elim
  exact se_of rfl (pe_chain r1 r2 pa pb pc (lastM n1 n2 n3 n4)) key fun _ => pt_chain r1 r2 pa pb pc (lastM n1 n2 n3 n4)

/-! ### tuples, lists, {} -/
theorem ge_disp {es : Es} {F : Hp} {env : Env} {Q : VK} (lst : Bool) (S : SR B F H σ env) (t : Tell B W σ ((evalEs G es env).bind fun ds env => if ds.length ≤ line ∧ bors es = [] then .ok (if lst then .lst ds else .tup ds) env else .stuck) F H env (fun d _ F' H' => ∀ v, Rep B F' v d → Q v H')) :
    nest (GAs B W G es) σ H fun vs H1 => vs.length ≤ sizeLine ∧ ∀ p, H1 p = none → Q (.ref p) (upd H1 p (if lst then .lst vs else .tup vs)) := by
  refine nest_of es F H env _ S (t.bind.mono fun ds env1 F1 H1 f1 s1 o1 t1 vs hvs => ?_)
  by_cases h : ds.length ≤ line ∧ bors es = []
  · rw [if_pos h] at t1
    have rl := args_rep h.2 hvs
    refine ⟨by rw [rl.length, lineEq]; exact h.1, fun p hp => ?_⟩
    have f := fr_new (F := F1) (o := if lst then .lst vs else .tup vs) hp s1.ext
    refine t1 _ _ (f.mono fun _ z => z.elim) (sr_step s1 f (ex_new s1.ext) (up_new hp) (nt_new fun ps z => ?_)) (fun _ z => z) (.ref p) ?_
    · cases lst <;> cases z
    · cases lst with
      | true => exact .lst (.inl (.inl upd_same)) (rl.ex f.ext)
      | false => exact .tup (.inl (.inl upd_same)) (rl.ex f.ext)
  · rw [if_neg h] at t1
    exact t1.elim
theorem se_tup {es : Es} {xs : List Expr} {x1 : Nat} {pos : Pos} (ps : PEs X xs (GAs B W G es)) (hn : xs.all noStar = true) : SE B W G X (.tup es) (.Tuple xs x1 pos) := by
  refine se_val rfl (pe_tup (pas ps hn)) (fun σ H Q ⟨F, env, S, t⟩ => ?_) rfl
  rw [evalE] at t
  exact ge_disp false S t
theorem se_lst {es : Es} {xs : List Expr} {pos : Pos} (ps : PEs X xs (GAs B W G es)) (hn : xs.all noStar = true) : SE B W G X (.lst es) (.List xs pos) := by
  refine se_val rfl (pe_lst (pas ps hn)) (fun σ H Q ⟨F, env, S, t⟩ => ?_) rfl
  rw [evalE] at t
  exact ge_disp true S t
theorem se_dnew {pos : Pos} : SE B W G X .dnew (.Dict [] [] pos) := by
  refine se_val rfl pe_dnewK (fun σ H Q ⟨F, env, S, t⟩ p hp => ?_) rfl
  rw [evalE] at t
  have f := fr_new (F := F) (o := .dK []) hp S.ext
  exact t _ _ (f.mono fun _ z => z.elim) (sr_step S f (ex_new S.ext) (up_new hp) (nt_new fun ps z => nomatch z)) (fun _ z => z) (.ref p) (.dct (kvs := []) upd_same .nil)

/-! ### calls -/
theorem call_pe (A : At B P G N k W X) {f : Nat} {es : Es} {as : List Expr} {x : Str} {p pos : Pos} (hf : f < P.nf) (hg : isGl k.sc x (P.fn f) = true) (hd : (x == ("__debug__" : Str)) = false) (ps : PEs X as (GAs B W G es)) (hn : as.all noStar = true) :
    PE X (.Call (.Name x p) as [] pos) (fun σ H Q => nest (GAs B W G es) σ H fun vs H1 => spI B (G.call f) vs H1 Q (WE W σ)) := by
  obtain ⟨j, a, fd, qs, hm, hk, hb, hr, F⟩ := A.S.fn f hf
  obtain ⟨rfl, hgl⟩ := gl_of A.hs hg
  cases as with
  | nil =>
    cases es with
    | cons _ _ => cases ps
    | nil =>
      refine ⟨fun pins s σ H Q I h => ?_⟩
      refine wpAny_Call_Name_kw (ld_glob I hgl hm ?_ hd)
      exact PySem.W.callWith_K0 I.kIn hk (run_fnS (us := []) F hr hb (passAt A.tk σ) I .nil h)
  | cons e es' =>
    simp only [List.all_cons, Bool.and_eq_true] at hn
    exact pe_callS F hr hgl hm hk hb (fun σ => passAt A.tk σ) (pas ps (by rw [List.all_cons, hn.1, hn.2]; rfl)) hd (star1 hn.1 _ _) (stars hn.2)
theorem se_call (A : At B P G N k W X) {f : Nat} {es : Es} {as : List Expr} {x : Str} {p pos : Pos} (hf : f < P.nf) (hg : isGl k.sc x (P.fn f) = true) (hd : (x == ("__debug__" : Str)) = false) (ps : PEs X as (GAs B W G es)) (hn : as.all noStar = true) :
    SE B W G X (.call f es) (.Call (.Name x p) as [] pos) := se_val rfl (call_pe A hf hg hd ps hn) (fun σ H Q q => call_ge q) rfl

/-! ### slices -/
def rSl (B : Tb) (X : Cx) : V → Option Int → Option Int → Hp → VK → Prop := fun x lo hi H Q => ∃ F d r, Ex F H ∧ BRep B F H x d ∧ sCut lo hi d = some r ∧
  ∀ v F' H', Fr (fun _ => False) F H F' H' → Ex F' H' → (∀ b o, H b = some o → H' b = some o) → (∀ b ps, F' b = some (.tbl ps) → F b = some (.tbl ps)) → Rep B F' v r → Q v H'
theorem cut_cutV (vs : List V) (lo hi : Option Int) : cutV vs lo hi = cut vs lo hi := by
  unfold cutV cut
  rw [six_eq, six_eq]
theorem RepL.cut {F : Hp} {vs : List V} {ds : List D} (r : RepL B F vs ds) (lo hi : Option Int) : RepL B F (Py.cut vs lo hi) (Py.cut ds lo hi) := by
  unfold Py.cut
  rw [r.length]
  exact (r.drop _).take _
theorem sl_ok (O : XOk B X) : SlR X (rSl B X) := by
  intro pins s σ H x v vl vu lo hi sl Q I rx hs pl pu h
  obtain ⟨F, d, r, ex, br, e, q⟩ := h
  have lst : ∀ a vs ds, x = .ref a → SqL X.K H a vs → RepL B F vs ds → r = .lst (cut ds lo hi) → rSlL X.K x lo hi H Q := fun a vs ds hx hl rl hr => by
    refine ⟨a, vs, hx, hl, fun p hp => ?_⟩
    have f := fr_new (F := F) (o := .lst (cutV vs lo hi)) hp ex
    refine q _ _ _ f (ex_new ex) (up_new hp) (nt_new fun ps z => nomatch z) ?_
    subst hr
    rw [cut_cutV]
    exact .lst (.inl (.inl upd_same)) ((rl.ex f.ext).cut lo hi)
  cases d with
  | lst ds =>
    cases e
    refine sl_list pins s σ H x v vl vu lo hi sl Q I rx hs pl pu ?_
    rcases br with br | ⟨p, vs, ds', hx, hd, hp, rl⟩ | ⟨p, kvs, ds', hx, hd, _⟩
    · cases br with
      | lst hq rl => exact lst _ _ ds rfl (by rw [O.K]; exact ex_l ex hq) rl rfl
    · cases hd
      exact lst p vs ds hx (.inl (.inl hp)) rl rfl
    · cases hd
  | tup ds =>
    cases e
    refine sl_tupA pins s σ H x v vl vu lo hi sl Q I rx hs pl pu ?_
    rcases br with br | ⟨p, vs, ds', hx, hd, hp, rl⟩ | ⟨p, kvs, ds', hx, hd, _⟩
    · cases br with
      | tup hq rl =>
        rename_i a vs
        have rr := rl.cut lo hi
        refine ⟨a, vs, rfl, by rw [O.K]; exact ex_t ex hq, fun w => ?_, fun _ p hp => ?_⟩
        · refine q _ F H Fr.refl ex (fun _ _ h => h) (fun _ _ h => h) (.tup hq ?_)
          have : Py.cut vs lo hi = vs := by
            unfold Py.cut
            rw [six_eq, six_eq, w.1, w.2]
            simp
          rw [this] at rr
          exact rr
        · have f := fr_new (F := F) (o := .tup (cutV vs lo hi)) hp ex
          refine q _ _ _ f (ex_new ex) (up_new hp) (nt_new fun ps z => nomatch z) ?_
          rw [cut_cutV]
          exact .tup (.inl (.inl upd_same)) (rr.ex f.ext)
    · cases hd
    · cases hd
  | str z =>
    simp only [sCut] at e
    split at e
    · rename_i hz
      cases e
      refine sl_str pins s σ H x v vl vu lo hi sl Q I rx hs pl pu ?_
      rcases br with br | ⟨p, vs, ds', hx, hd, hp, rl⟩ | ⟨p, kvs, ds', hx, hd, _⟩
      · cases br with
        | str y =>
          have hl : y.cps.toList.length = y.length := Array.length_toList
          refine ⟨y, rfl, by rw [lineEq, ← hl]; exact hz, q _ F H Fr.refl ex (fun _ _ h => h) (fun _ _ h => h) (str_rep _ ?_)⟩
          show (((y.cps.toList.drop (HT.sIx y.length 0 lo)).take (HT.sIx y.length y.length hi - HT.sIx y.length 0 lo)).toArray).toList = _
          unfold Py.cut
          rw [six_eq, six_eq, hl]
      · cases hd
      · cases hd
    · cases e
  | _ => cases e
def slP (lo : E) (l : Option Expr) : Prop := match l with
  | none => lo = .non
  | some _ => isNonE lo = false ∧ noBor lo = true
end
end Py
end
section
set_option Elab.async false
set_option linter.all false
set_option maxRecDepth 100000
set_option maxHeartbeats 4000000
/-! Py over HandS: slices' parts, targets, what is walked, blocks. -/
namespace Py
open PySem PySem.Spec PyProof.Rows L2
section
variable {B : Tb} {P : Prg} {G : Cfg} {N : List Str} {k : Bk} {W : WX} {X : Cx} {σ : L2.St} {H : Hp}
theorem PO.mono {e : Option Expr} {t t' : TO} (h : PO X e t) (i : ∀ σ H Q, t' σ H Q → t σ H Q) : PO X e t' := ⟨fun pins s σ H Q I q => h.run pins s σ H Q I (i σ H Q q)⟩
theorem PG.mono {e : Expr} {t t' : TG} (h : PG X e t) (i : ∀ v σ H Q, t' v σ H Q → t v σ H Q) : PG X e t' := ⟨fun pins s σ H v u Q I r q => h.run pins s σ H v u Q I r (i v σ H Q q)⟩
theorem PGs.mono {e : List Expr} {t t' : TGs} (h : PGs X e t) (i : ∀ v σ H Q, t' v σ H Q → t v σ H Q) : PGs X e t' := ⟨fun pins s σ H v u Q I r q => h.run pins s σ H v u Q I r (i v σ H Q q)⟩
theorem PI.mono {tg e : Expr} {t t' : TI} (h : PI X tg e t) (i : ∀ σ H Q, t' σ H Q → t σ H Q) : PI X tg e t' := ⟨fun pins s σ H Q I q => h.run pins s σ H Q I (i σ H Q q)⟩

/-! ### slices -/
def GPt (B : Tb) (W : WX) (f : Env → Res (Option Int)) : TO := fun σ H Q => ∃ F env, SR B F H σ env ∧ Tell B W σ (f env) F H env (fun i _ _ H' => Q i H')
theorem po_non : PO X none (GPt B W fun env => partR (isNonE .non) (evalE G .non env)) := PO.mono po_none fun σ H Q ⟨F, env, S, t⟩ => t.now S
theorem po_of {lo : E} {y : Expr} (h : SE B W G X lo y) (hn : isNonE lo = false) (hb : noBor lo = true) : PO X (some y) (GPt B W fun env => partR (isNonE lo) (evalE G lo env)) := by
  refine PO.mono (po_some (h.ge hb)) fun σ H Q ⟨F, env, S, t⟩ => ⟨F, env, S, ?_⟩
  rw [hn] at t
  have t : Tell B W σ (partR false (evalE G lo env)) F H env _ := t
  cases e : evalE G lo env with
  | stuck => rw [e] at t; exact t.elim
  | exc c ds env' => rw [e] at t; exact t
  | ok d env' =>
    rw [e] at t
    cases d with
    | int i =>
      intro F' H' f s o v r
      cases r
      exact ⟨i, rfl, t F' H' f s o⟩
    | _ => exact t.elim
theorem brep_slot {F : Hp} {env : Env} (S : SR B F H σ env) {i : Nat} {v : V} {x : D} (hv : σ[i]? = some (some v)) (z : frz (getS env i) = some x) : BRep B F H v x :=
  (fill_rep S (es := .cons (.bor i) .nil) (vs := [v]) (ds := [.non]) (xs := [x]) ⟨hv, trivial⟩ (by unfold fillD; simp only [isBor]; rw [z]; simp)).1
theorem se_sl (A : At B P G N k W X) {a lo hi : E} {x : Expr} {l h : Option Expr} {p2 pos : Pos} (ha : SE B W G X a x) (hl : PO X l (GPt B W fun env => partR (isNonE lo) (evalE G lo env))) (hh : PO X h (GPt B W fun env => partR (isNonE hi) (evalE G hi env))) :
    SE B W G X (.sl a lo hi) (.Subscript x (.Slice l h none p2) pos) := by
  refine se_val rfl (pe_slice (sl_ok A.S.O) ha.pe hl hh) (fun σ H Q ⟨F, env, S, t⟩ => ?_) rfl
  rw [evalE] at t
  have fin : ∀ {F3 H3 : Hp} {env3 : Env} {v : V} {d : D} {i j : Option Int}, SR B F3 H3 σ env3 → BRep B F3 H3 v d → Tell B W σ (lift env3 (sCut i j d)) F3 H3 env3 (fun d _ F' H' => ∀ v, Rep B F' v d → Q v H') → rSl B X v i j H3 Q := fun {F3 H3 env3 v d i j} s3 br t3 => by
    cases e : sCut i j d with
    | none => rw [e] at t3; exact t3.elim
    | some r =>
      rw [e] at t3
      exact ⟨F3, d, r, s3.ext, br, e, fun v F' H' f ex' up nt rp => t3 F' H' (f.mono fun _ z => z.elim) (sr_step s3 f ex' up nt) (fun _ z => z) v rp⟩
  cases hb : isBor a with
  | none =>
    have hg : GA B W G a = GE B W (evalE G a) := by unfold GA; rw [hb]
    rw [hg]
    refine ⟨F, env, S, t.bind.mono fun d env1 F1 H1 f1 s1 o1 t1 v r => ⟨F1, env1, s1, t1.bind.mono fun i env2 F2 H2 f2 s2 o2 t2 => ⟨F2, env2, s2, t2.bind.mono fun j env3 F3 H3 f3 s3 o3 t3 => ?_⟩⟩⟩
    have e : borD a d env3 = some d := by unfold borD; rw [hb]
    rw [e] at t3
    exact fin s3 (.inl ((r.ex f2.ext).ex f3.ext)) t3
  | some n =>
    have hg : GA B W G a = tVar n := by unfold GA; rw [hb]
    have he : a = .bor n := by cases a <;> first | (cases hb; done) | (cases hb; rfl)
    subst he
    rw [hg]
    by_cases hu : getS env n = .un
    · exfalso
      have z := t.bind
      unfold evalE at z
      rw [hu] at z
      exact z
    · have ev : evalE G (.bor n) env = .ok .non env := by
        unfold evalE
        cases q2 : getS env n <;> first | exact absurd q2 hu | rfl
      obtain ⟨v, hv⟩ := S.there hu
      have t1 := t.bind
      rw [ev] at t1
      have t1 := t1.now S
      refine ⟨v, hv, F, env, S, t1.bind.mono fun i env2 F2 H2 f2 s2 o2 t2 => ⟨F2, env2, s2, t2.bind.mono fun j env3 F3 H3 f3 s3 o3 t3 => ?_⟩⟩
      have e : borD (.bor n) .non env3 = frz (getS env3 n) := rfl
      rw [e] at t3
      cases z : frz (getS env3 n) with
      | none => rw [z] at t3; exact t3.elim
      | some d =>
        rw [z] at t3
        exact fin s3 (brep_slot s3 hv z) t3

/-! ### targets -/
def gP (B : Tb) (tg : Tg) : TG := fun v σ H Q => ∃ F env d env', SR B F H σ env ∧ Rep B F v d ∧ put tg d env = some env' ∧
  ∀ σ', SR B F H σ' env' → (∀ j, j ∉ tgSlots tg → σ'[j]? = σ[j]?) → (∀ b, Ow env' σ' b → Ow env σ b) → Q σ' H
def gPs (B : Tb) (tgs : Tgs) : TGs := fun vs σ H Q => ∃ F env ds env', SR B F H σ env ∧ RepL B F vs ds ∧ puts tgs ds env = some env' ∧
  ∀ σ', SR B F H σ' env' → (∀ j, j ∉ tgsSlots tgs → σ'[j]? = σ[j]?) → (∀ b, Ow env' σ' b → Ow env σ b) → Q σ' H
theorem ow_store {env : Env} {i : Nat} {v : V} {d : D} {b : Addr} (hl : env.length = σ.length) (h : Ow (setS env i (.v d)) (σ.set i (some v)) b) : Ow env σ b := by
  obtain ⟨j, h1, h2⟩ := h
  rw [getS_set] at h1
  by_cases e : i = j
  · subst e
    by_cases hi : i < env.length
    · rw [if_pos ⟨rfl, hi⟩] at h1; cases h1
    · rw [if_neg (fun z => hi z.2)] at h1
      rw [List.set_eq_of_length_le (by omega)] at h2
      exact ⟨i, h1, h2⟩
  · rw [if_neg (fun z => e z.1)] at h1
    rw [List.getElem?_set_ne e] at h2
    exact ⟨j, h1, h2⟩
theorem sr_put {F : Hp} {env : Env} (S : SR B F H σ env) {i : Nat} {v : V} {d : D} (r : Rep B F v d) : SR B F H (σ.set i (some v)) (setS env i (.v d)) := by
  by_cases hi : i < env.length
  · exact sr_store S hi (out_v r)
  · rw [getS_set_out (by omega), List.set_eq_of_length_le (by have := S.len; omega)]
    exact S
theorem storeB_of (A : At B P G N k W X) {i : Nat} {ast : Expr} (h : storeB N k i ast = true) : ∃ x p, ast = .Name x p ∧ X.N[i]? = some x ∧ L2.Loc X.env.scope x ∧ (X.fn x = true ∨ X.env.scope.names.lookup x = some .local) := by
  cases ast <;> simp only [storeB] at h <;> try (cases h; done)
  rename_i x p
  simp only [Bool.and_eq_true, decide_eq_true_eq] at h
  obtain ⟨h1, h2⟩ := h
  refine ⟨x, p, rfl, by rw [A.hN]; exact h1, ?_⟩
  unfold L2.Loc
  rw [A.hs]
  split at h2
  · rename_i e; exact ⟨.inl e, .inr e⟩
  · rename_i e; exact ⟨.inr e, .inl (A.hc x h2)⟩
  · cases h2
theorem each1 {e : Expr} (h : noStar e = true) (es : List Expr) (env : PySem.Env) : assignEach (e :: es) env = (false, assign e env) :: assignEach es env := by
  cases e <;> first | rfl | cases h
theorem each_ok {env : PySem.Env} : ∀ {es : List Expr}, es.all noStar = true → (assignEach es env).length = es.length ∧ (assignEach es env).findIdx? (·.1) = none
  | [], _ => ⟨rfl, rfl⟩
  | e :: es, h => by
    simp only [List.all_cons, Bool.and_eq_true] at h
    obtain ⟨h1, h2⟩ := each_ok (env := env) h.2
    rw [each1 h.1]
    exact ⟨by simp [h1], by simp [List.findIdx?_cons, h2]⟩
theorem puts_len : ∀ {ts : Tgs} {ds : List D} {env env' : Env} {es : List Expr}, puts ts ds env = some env' → chkTgs N k ts es = true → ds.length = es.length ∧ es.all noStar = true
  | .nil, [], env, env', [], _, _ => ⟨rfl, rfl⟩
  | .nil, [], env, env', _ :: _, _, h => by simp [chkTgs] at h
  | .nil, _ :: _, env, env', _, h, _ => by simp at h
  | .cons t ts, [], env, env', _, h, _ => by simp at h
  | .cons t ts, d :: ds, env, env', [], _, h => by simp [chkTgs] at h
  | .cons t ts, d :: ds, env, env', e :: es, h, hc => by
    simp only [chkTgs, Bool.and_eq_true] at hc
    simp only [puts] at h
    cases q : put t d env with
    | none => rw [q] at h; cases h
    | some env1 =>
      rw [q] at h
      obtain ⟨h1, h2⟩ := puts_len h hc.2
      exact ⟨by simp [h1], by rw [List.all_cons, hc.1.2, h2]; rfl⟩
mutual
theorem pg_ok (A : At B P G N k W X) : ∀ (tg : Tg) (ast : Expr), chkTg N k tg ast = true → PG X ast (gP B tg)
  | .name i, ast, h => by
    obtain ⟨x, p, rfl, h1, h2, h3⟩ := storeB_of A h
    refine PG.mono (pg_name A.S.O.nd h1 h2 h3) fun v σ H Q ⟨F, env, d, env', S, r, e, q⟩ => ?_
    cases e
    exact q _ (sr_put S r) (fun j hj => List.getElem?_set_ne fun z => hj (by simp [tgSlots, z])) fun b hb => ow_store S.len hb
  | .tup ts, .Tuple es k1 pos, h => by
    have h : chkTgs N k ts es = true := h
    refine ⟨fun pins s σ H v u Q I r hq => ?_⟩
    obtain ⟨F, env, d, env', S, rep, e, q⟩ := hq
    cases d with
    | tup ds =>
      simp only [put] at e
      obtain ⟨hl, hn⟩ := puts_len e h
      obtain ⟨e1, e2⟩ := each_ok (env := X.env) hn
      refine (pg_tup (n := es.length) A.S.O.calm (pgs_ok A ts es h) e1 e2).run pins s σ H v u Q I r ?_
      cases rep with
      | tup hq rl =>
        exact ⟨_, _, rfl, by rw [A.S.O.K]; exact ex_t S.ext hq, by rw [rl.length, hl], F, env, ds, env', S, rl, e, fun σ' s' hj ho => q σ' s' hj ho⟩
    | _ => simp at e
  | .tup ts, ast, h => by
    cases ast <;> first | (simp [chkTg] at h; done) | skip
    rename_i es k1 pos
    have h : chkTgs N k ts es = true := h
    refine ⟨fun pins s σ H v u Q I r hq => ?_⟩
    obtain ⟨F, env, d, env', S, rep, e, q⟩ := hq
    cases d with
    | tup ds =>
      simp only [put] at e
      obtain ⟨hl, hn⟩ := puts_len e h
      obtain ⟨e1, e2⟩ := each_ok (env := X.env) hn
      refine (pg_tup (n := es.length) A.S.O.calm (pgs_ok A ts es h) e1 e2).run pins s σ H v u Q I r ?_
      cases rep with
      | tup hq rl =>
        exact ⟨_, _, rfl, by rw [A.S.O.K]; exact ex_t S.ext hq, by rw [rl.length, hl], F, env, ds, env', S, rl, e, fun σ' s' hj ho => q σ' s' hj ho⟩
    | _ => simp at e
theorem pgs_ok (A : At B P G N k W X) : ∀ (tgs : Tgs) (es : List Expr), chkTgs N k tgs es = true → PGs X es (gPs B tgs)
  | .nil, [], _ => by
    refine PGs.mono pgs_nil fun vs σ H Q ⟨F, env, ds, env', S, r, e, q⟩ => ?_
    cases ds with
    | nil =>
      cases r
      cases e
      exact ⟨rfl, q σ S (fun _ _ => rfl) fun _ z => z⟩
    | cons _ _ => simp at e
  | .cons t ts, ex :: es, h => by
    simp only [chkTgs, Bool.and_eq_true] at h
    refine PGs.mono (pgs_cons (pg_ok A t ex h.1.1) (pgs_ok A ts es h.2) (by rw [each1 h.1.2]; rfl)) fun vs σ H Q ⟨F, env, ds, env', S, r, e, q⟩ => ?_
    cases ds with
    | nil => simp at e
    | cons d ds =>
      cases r with
      | cons r1 r2 =>
        simp only [puts] at e
        cases z : put t d env with
        | none => rw [z] at e; cases e
        | some env1 =>
          rw [z] at e
          refine ⟨_, _, rfl, F, env, d, env1, S, r1, z, fun σ1 s1 j1 o1 => ⟨F, env1, ds, env', s1, r2, e, fun σ2 s2 j2 o2 => q σ2 s2 (fun j hj => ?_) fun b hb => o1 b (o2 b hb)⟩⟩
          simp only [tgsSlots, List.mem_append, not_or] at hj
          rw [j2 j hj.2, j1 j hj.1]
  | .nil, _ :: _, h => by simp [chkTgs] at h
  | .cons _ _, [], h => by simp [chkTgs] at h
end

/-! ### what is walked -/
theorem gi_seq (A : At B P G N k W X) {e : E} {x tg : Expr} (h : SE B W G X e x) (hb : noBor e = true) : PI X tg x (GI B W (evalIt G (.seq e))) := by
  refine PI.mono (pi_any A.S.O (h.ge hb)) fun σ H R ⟨F, env, S, t⟩ => ?_
  rw [evalIt] at t
  refine ⟨F, env, S, t.bind.mono fun d env1 F1 H1 f1 s1 o1 t1 v r => ?_⟩
  cases z : seqOf d with
  | none => rw [z] at t1; exact t1.elim
  | some xs =>
    rw [z] at t1
    exact ⟨F1, xs, ⟨d, r, z⟩, s1.ext, t1.now s1⟩
theorem nobors_bors : ∀ {es : Es}, noBors es = true → bors es = []
  | .nil, _ => rfl
  | .cons e es, h => by
    simp only [noBors, Bool.and_eq_true] at h
    unfold bors
    rw [nobor_is h.1]
    exact nobors_bors h.2
theorem pes_len : ∀ {es : Es} {as : List Expr}, PEs X as (GAs B W G es) → as.length = esLen es
  | .nil, _, h => by cases h; rfl
  | .cons e es, _, h => by
    cases h with
    | cons _ _ r => simp [esLen, pes_len r]
theorem repl1 {F1 : Hp} {vs : List V} {d : D} (r : RepL B F1 vs [d]) : ∃ v, vs = [v] ∧ Rep B F1 v d := by
  cases r with
  | cons h r => cases r; exact ⟨_, rfl, h⟩
theorem repl2 {F1 : Hp} {vs : List V} {d d2 : D} (r : RepL B F1 vs [d, d2]) : ∃ v v2, vs = [v, v2] ∧ Rep B F1 v d ∧ Rep B F1 v2 d2 := by
  cases r with
  | cons h r =>
    cases r with
    | cons h2 r => cases r; exact ⟨_, _, rfl, h, h2⟩
theorem gi_range (A : At B P G N k W X) {es : Es} {as : List Expr} {tg : Expr} {x : Str} {p pos : Pos} (hg : isGl k.sc x "range" = true) (ps : PEs X as (GAs B W G es)) (hn : as.all noStar = true) (hb : noBors es = true) (h2 : as.length ≤ 2) :
    PI X tg (.Call (.Name x p) as [] pos) (GI B W (evalIt G (.range es))) := by
  obtain ⟨rfl, hgl⟩ := gl_of A.hs hg
  have hm := A.S.O.bl "range" (by decide)
  have key : ∀ σ H R (kk : List V → Hp → Prop), GI B W (evalIt G (.range es)) σ H R → (∀ F1 H1 vs ds xs, RepL B F1 vs ds → vs.length = as.length → rangeOf ds = some xs → (∀ J, WalkD B J xs F1 → R J H1) → kk vs H1) → nest (GAs B W G es) σ H kk := fun σ H R kk ⟨F, env, S, t⟩ hk => by
    rw [evalIt] at t
    refine nest_of es F H env _ S (t.bind.mono fun ds env1 F1 H1 f1 s1 o1 t1 vs hvs => ?_)
    cases z : rangeOf ds with
    | none => rw [z] at t1; exact t1.elim
    | some xs =>
      rw [z] at t1
      exact hk F1 H1 vs ds xs (args_rep (nobors_bors hb) hvs) (by rw [args_len2 hvs, pes_len ps]) z (t1.now s1)
  have shape : ∀ {ds : List D} {xs : List D}, rangeOf ds = some xs → (∃ n : Int, ds = [.int n] ∧ (-(2 ^ 62) ≤ n ∧ n < 2 ^ 62) ∧ xs = rangeL 0 n.toNat) ∨ ∃ lo hi : Int, ds = [.int lo, .int hi] ∧ (-(2 ^ 62) ≤ lo ∧ lo < 2 ^ 62 ∧ -(2 ^ 62) ≤ hi ∧ hi < 2 ^ 62) ∧ xs = rangeL lo (hi - lo).toNat := fun {ds xs} e => by
    unfold rangeOf at e
    split at e
    · split at e
      · rename_i h; cases e; exact .inl ⟨_, rfl, h, rfl⟩
      · cases e
    · split at e
      · rename_i h; cases e; exact .inr ⟨_, _, rfl, h, rfl⟩
      · cases e
    · cases e
  match as, ps, hn, h2, key with
  | [], ps, _, _, key =>
    cases es with
    | cons _ _ => cases ps
    | nil =>
      refine ⟨fun pins s σ H R I h => ?_⟩
      obtain ⟨F, env, S, t⟩ := h
      exact t.elim
  | [a], ps, hn, _, key =>
    have e0 : noStar a = true := by simpa using hn
    refine PI.mono (pi_range1 hgl hm (pas ps hn) (star1 e0 _ _)) fun σ H R h => key σ H R _ h fun F1 H1 vs ds xs r hl z q => ?_
    rcases shape z with ⟨n, rfl, hh, rfl⟩ | ⟨lo, hi, rfl, hh, rfl⟩
    · obtain ⟨v, rfl, rv⟩ := repl1 r
      cases rv
      exact ⟨n, rfl, hh.1, hh.2, q _ (walkD_range 0 n.toNat)⟩
    · obtain ⟨v, v2, rfl, rv⟩ := repl2 r
      simp at hl
  | [a, b], ps, hn, _, key =>
    simp only [List.all_cons, Bool.and_eq_true] at hn
    refine PI.mono (pi_range2 hgl hm (pas ps (by simp [hn.1, hn.2.1])) (by rw [star1 hn.1, star1 hn.2.1]; rfl) (star1 hn.2.1 _ _)) fun σ H R h => key σ H R _ h fun F1 H1 vs ds xs r hl z q => ?_
    rcases shape z with ⟨n, rfl, hh, rfl⟩ | ⟨lo, hi, rfl, hh, rfl⟩
    · obtain ⟨v, rfl, rv⟩ := repl1 r
      simp at hl
    · obtain ⟨v, v2, rfl, rv, rv2⟩ := repl2 r
      cases rv
      cases rv2
      exact ⟨lo, hi, rfl, hh, q _ (walkD_range lo (hi - lo).toNat)⟩
  | a :: b :: c :: r, ps, hn, h2, key =>
    simp only [List.length_cons] at h2
    omega
theorem gi_enum (A : At B P G N k W X) {e : E} {a tg : Expr} {x : Str} {p pos : Pos} (hg : isGl k.sc x "enumerate" = true) (h : SE B W G X e a) (hb : noBor e = true) (hn : noStar a = true) (ht : isTupE tg = true) :
    PI X tg (.Call (.Name x p) [a] [] pos) (GI B W (evalIt G (.enum e))) := by
  obtain ⟨rfl, hgl⟩ := gl_of A.hs hg
  cases tg <;> first | (cases ht; done) | skip
  refine PI.mono (pi_enum hgl (A.S.O.bl "enumerate" (by decide)) (pas (.cons (h.ge hb) (ge_mono _) .nil) (by simp [hn])) (star1 hn _ _)) fun σ H R ⟨F, env, S, t⟩ => ?_
  rw [evalIt] at t
  refine ⟨F, env, S, t.bind.mono fun d env1 F1 H1 f1 s1 o1 t1 v r => ?_⟩
  cases d with
  | lst ds =>
    cases r with
    | lst hq rl => exact ⟨_, _, rfl, by rw [A.S.O.K]; exact ex_l s1.ext hq, by rw [A.S.O.K]; exact t1.now s1 _ (walkD_enum hq rl)⟩
  | _ => exact t1.elim
theorem gi_zip (A : At B P G N k W X) {e e2 : E} {a b tg : Expr} {x : Str} {p pos : Pos} (hg : isGl k.sc x "zip" = true) (h : SE B W G X e a) (h2 : SE B W G X e2 b) (hb : noBor e = true) (hb2 : noBor e2 = true) (hn : noStar a = true) (hn2 : noStar b = true) (ht : isTupE tg = true) :
    PI X tg (.Call (.Name x p) [a, b] [] pos) (GI B W (evalIt G (.zip e e2))) := by
  obtain ⟨rfl, hgl⟩ := gl_of A.hs hg
  cases tg <;> first | (cases ht; done) | skip
  refine PI.mono (RZ.pi_zipA hgl (A.S.O.bl "zip" (by decide)) (pas (.cons (h.ge hb) (ge_mono _) (.cons (h2.ge hb2) (ge_mono _) .nil)) (by simp [hn, hn2])) (star1 hn _ _) (stars (by simp [hn2]))) fun σ H R ⟨F, env, S, t⟩ => ?_
  rw [evalIt] at t
  refine ⟨F, env, S, t.bind.mono fun d env1 F1 H1 f1 s1 o1 t1 v r => ⟨F1, env1, s1, t1.bind.mono fun d2 env2 F2 H2 f2 s2 o2 t2 v2 r2 => ?_⟩⟩
  have r := r.ex f2.ext
  cases d with
  | lst ds =>
    cases d2 with
    | lst es =>
      cases r with
      | lst hq rl =>
        cases r2 with
        | lst hq2 rl2 => exact ⟨_, _, _, _, rfl, .inl ⟨by rw [A.S.O.K]; exact ex_l s2.ext hq, by rw [A.S.O.K]; exact ex_l s2.ext hq2, by rw [A.S.O.K]; exact t2.now s2 _ (walkD_zip hq rl hq2 rl2)⟩⟩
    | _ => exact t2.elim
  | tup ds =>
    cases d2 with
    | tup es =>
      cases r with
      | tup hq rl =>
        cases r2 with
        | tup hq2 rl2 => exact ⟨_, _, _, _, rfl, .inr ⟨by rw [A.S.O.K]; exact ex_t s2.ext hq, by rw [A.S.O.K]; exact ex_t s2.ext hq2, by rw [A.S.O.K]; exact t2.now s2 _ (walkD_zipT hq rl hq2 rl2)⟩⟩
    | _ => exact t2.elim
  | _ => cases d2 <;> exact t2.elim
end
end Py
end
section
set_option Elab.async false
set_option linter.all false
set_option maxRecDepth 100000
set_option maxHeartbeats 4000000
/-! Py over HandS: comprehensions. -/
namespace Py
open PySem PySem.Spec PyProof.Rows L2
section
variable {B : Tb} {P : Prg} {G : Cfg} {N : List Str} {k : Bk} {W : WX} {X : Cx} {σ : L2.St} {F H : Hp} {env : Env}
theorem wipe_at : ∀ (vs : List Nat) (j : Nat), (L2.wipe σ vs)[j]? = if j ∈ vs ∧ j < σ.length then some none else σ[j]?
  | [], j => by simp [L2.wipe]
  | v :: vs, j => by
    unfold L2.wipe
    rw [List.getElem?_set, wipe_length, wipe_at vs j]
    by_cases e : v = j
    · subst e
      by_cases hl : v < σ.length
      · simp [hl]
      · simp [hl]
    · rw [if_neg e]
      have : j ∈ v :: vs ↔ j ∈ vs := by simp [List.mem_cons, Ne.symm e]
      simp only [this]
theorem wipeS_length : ∀ (env : Env) (l : List Nat), (wipeS env l).length = env.length
  | _, [] => rfl
  | env, i :: l => by simp only [wipeS]; rw [setS_length, wipeS_length env l]
theorem wipeS_at (env : Env) : ∀ (l : List Nat) (j : Nat), getS (wipeS env l) j = if j ∈ l then .un else getS env j
  | [], j => by simp
  | i :: l, j => by
    simp only [wipeS]
    rw [getS_set, wipeS_at env l j, wipeS_length]
    by_cases e : i = j
    · subst e
      by_cases hl : i < env.length
      · simp [hl]
      · simp [hl, getS_none (env := env) (i := i) (by omega)]
    · simp [List.mem_cons, e, Ne.symm e]
theorem backS_length : ∀ (env old : Env) (l : List Nat), (backS env old l).length = env.length
  | _, _, [] => rfl
  | env, old, i :: l => by simp only [backS]; rw [setS_length, backS_length env old l]
theorem backS_at (env old : Env) (hl : env.length = old.length) : ∀ (l : List Nat) (j : Nat), getS (backS env old l) j = if j ∈ l then getS old j else getS env j
  | [], j => by simp
  | i :: l, j => by
    simp only [backS]
    rw [getS_set, backS_at env old hl l j, backS_length]
    by_cases e : i = j
    · subst e
      by_cases h : i < env.length
      · simp [h]
      · simp [h, getS_none (env := env) (i := i) (by omega), getS_none (env := old) (i := i) (by omega)]
    · simp [List.mem_cons, e, Ne.symm e]
theorem wipe_wipe {σ' : L2.St} {vs : List Nat} (hl : σ'.length = σ.length) (h : ∀ j, j ∉ vs → σ'[j]? = (L2.wipe σ vs)[j]?) : L2.wipe σ' vs = L2.wipe σ vs := by
  refine List.ext_getElem? fun j => ?_
  rw [wipe_at, wipe_at, hl]
  by_cases hj : j ∈ vs
  · by_cases hlt : j < σ.length
    · simp [hj, hlt]
    · rw [if_neg (fun z => hlt z.2), if_neg (fun z => hlt z.2), List.getElem?_eq_none (by omega), List.getElem?_eq_none (by omega)]
  · rw [if_neg (fun z => hj z.1), if_neg (fun z => hj z.1), h j hj, wipe_at, if_neg (fun z => hj z.1)]
theorem ow_wipe {l : List Nat} {b : Addr} (h : Ow (wipeS env l) (L2.wipe σ l) b) : Ow env σ b := by
  obtain ⟨j, h1, h2⟩ := h
  rw [wipeS_at] at h1
  split at h1
  · cases h1
  · rename_i hj
    rw [wipe_at, if_neg (fun z => hj z.1)] at h2
    exact ⟨j, h1, h2⟩
theorem sr_wipe (S : SR B F H σ env) (l : List Nat) : SR B F H (L2.wipe σ l) (wipeS env l) := by
  refine ⟨S.ext, S.tab, S.notab, by rw [wipeS_length, wipe_length]; exact S.len, fun j => ?_, fun a b p h1 h2 h3 h4 => ?_⟩
  · rw [wipeS_at]
    split
    · trivial
    · rename_i hj
      rw [wipe_at, if_neg (fun z => hj z.1)]
      exact S.slot j
  · rw [wipeS_at] at h1 h2
    split at h1
    · cases h1
    · split at h2
      · cases h2
      · rename_i ha hb
        rw [wipe_at, if_neg (fun z => ha z.1)] at h3
        rw [wipe_at, if_neg (fun z => hb z.1)] at h4
        exact S.apart a b p h1 h2 h3 h4
/-- a heap where what is nobody's has changed -/
theorem tabs_upd {T : List (Addr × Str)} {D : Addr} {xs ys : List V} (t : LamX.Tabs T H) (h : H D = some (.lst xs)) : LamX.Tabs T (upd H D (.lst ys)) := fun p hp => by
  obtain ⟨ps, h1, h2, h3⟩ := t p hp
  refine ⟨ps, ?_, h2, fun pos cv hc => ?_⟩
  · rw [upd_ne (fun z => by rw [z, h] at h1; cases h1)]; exact h1
  · obtain ⟨c, e1, e2⟩ := h3 pos cv hc
    refine ⟨c, e1, ?_⟩
    rw [upd_ne (fun z => by rw [z, h] at e2; cases e2)]
    exact e2
theorem sr_upd {D : Addr} {xs ys : List V} (S : SR B F H σ env) (h : H D = some (.lst xs)) (hF : F D = none) (ho : ¬ Ow env σ D) : SR B F (upd H D (.lst ys)) σ env := by
  have hx : Ex F (upd H D (.lst ys)) := fun b o e => by
    rw [upd_ne (fun z => by rw [z, hF] at e; cases e)]
    exact S.ext b o e
  refine ⟨hx, tabs_upd S.tab h, S.notab, S.len, fun i => ?_, S.apart⟩
  refine SlotR.keep (A := fun b => b = D) ⟨Ex.refl F, fun b h1 h2 => absurd h1 h2, fun b o e hb _ => by rw [upd_ne hb]; exact e, fun b e => nz_mod (fun _ (z : HO.lst ys = .tbl _) => HO.noConfusion z) e⟩ hx (S.slot i) fun h1 p h2 z => ho ⟨i, h1, by rw [← z]; exact h2⟩

mutual
theorem put_length : ∀ {tg : Tg} {d : D} {env env' : Env}, put tg d env = some env' → env'.length = env.length
  | .name i, d, env, env', h => by
    simp only [put] at h
    cases h
    exact setS_length _ _ _
  | .tup ts, d, env, env', h => by
    cases d <;> simp only [put] at h <;> first | (cases h; done) | exact puts_length h
theorem puts_length : ∀ {ts : Tgs} {ds : List D} {env env' : Env}, puts ts ds env = some env' → env'.length = env.length
  | .nil, [], env, env', h => by simp only [puts] at h; cases h; rfl
  | .nil, _ :: _, env, env', h => by simp only [puts] at h; cases h
  | .cons t ts, [], env, env', h => by simp only [puts] at h; cases h
  | .cons t ts, d :: ds, env, env', h => by
    simp only [puts] at h
    cases z : put t d env with
    | none => rw [z] at h; cases h
    | some env1 =>
      rw [z] at h
      rw [puts_length h, put_length z]
end

/-- a clause's tests -/
def GTs (B : Tb) (G : Cfg) : Es → TT
  | .nil => tYes
  | .cons c .nil => GT B (fun _ _ _ _ => False) (evalE G c)
  | _ => fun _ _ _ => False
theorem gts_of {cs : Es} {b : Bool} {env' : Env} {Q : Bool → Hp → Prop} (S : SR B F H σ env) (e : testAll G cs env = .ok b env')
    (q : ∀ F' H', Fr (Ow env σ) F H F' H' → SR B F' H' σ env' → (∀ b, Ow env' σ b → Ow env σ b) → Q b H') : GTs B G cs σ H Q := by
  cases cs with
  | nil =>
    simp only [testAll] at e
    cases e
    exact q F H Fr.refl S fun _ z => z
  | cons c r =>
    simp only [testAll] at e
    cases z : evalE G c env with
    | stuck => rw [z] at e; cases e
    | exc _ _ _ => rw [z] at e; cases e
    | ok d env1 =>
      rw [z] at e
      cases r with
      | cons _ _ => cases d <;> cases e
      | nil =>
        cases d with
        | bl b' =>
          cases e
          refine ⟨F, env, S, ?_⟩
          rw [z]
          exact fun F' H' f s o => ⟨_, rfl, q F' H' f s o⟩
        | _ => cases e
theorem lcGo_cons {turn : D → Env → Res (Option D)} {x : D} {xs : List D} {env env' : Env} {ds : List D} (h : lcGo turn (x :: xs) env = .ok ds env') :
    ∃ y env1 r, turn x env = .ok y env1 ∧ lcGo turn xs env1 = .ok r env' ∧ ds = (match y with | some y => y :: r | none => r) := by
  simp only [lcGo] at h
  cases z : turn x env with
  | stuck => rw [z] at h; cases h
  | exc _ _ _ => rw [z] at h; cases h
  | ok y env1 =>
    rw [z] at h
    simp only [Res.bind] at h
    cases z2 : lcGo turn xs env1 with
    | stuck => rw [z2] at h; cases h
    | exc _ _ _ => rw [z2] at h; cases h
    | ok r env2 =>
      rw [z2] at h
      cases h
      exact ⟨y, env1, r, rfl, z2, rfl⟩
/-- one turn of a comprehension -/
def lcTurn (G : Cfg) (tg : Tg) (own : List Nat) (cs : Es) (e : E) : D → Env → Res (Option D) := fun x env1 => match put tg x (wipeS env1 own) with
      | none => .stuck
      | some env2 => (testAll G cs env2).bind fun b env3 => if b then (evalE G e env3).bind fun d env4 => .ok (some d) env4 else .ok none env3
theorem lcTurn_ok {tg : Tg} {own : List Nat} {cs : Es} {e : E} {x : D} {env1 env' : Env} {y : Option D} (h : lcTurn G tg own cs e x env1 = .ok y env') :
    ∃ env2 b env3, put tg x (wipeS env1 own) = some env2 ∧ testAll G cs env2 = .ok b env3 ∧ ((b = true ∧ ∃ d, evalE G e env3 = .ok d env' ∧ y = some d) ∨ (b = false ∧ y = none ∧ env' = env3)) := by
  unfold lcTurn at h
  cases z : put tg x (wipeS env1 own) with
  | none => rw [z] at h; cases h
  | some env2 =>
    rw [z] at h
    simp only at h
    cases z2 : testAll G cs env2 with
    | stuck => rw [z2] at h; cases h
    | exc _ _ _ => rw [z2] at h; cases h
    | ok b env3 =>
      rw [z2] at h
      simp only [Res.bind] at h
      refine ⟨env2, b, env3, rfl, z2, ?_⟩
      cases b with
      | false => cases h; exact .inr ⟨rfl, rfl, rfl⟩
      | true =>
        simp only [if_true] at h
        cases z3 : evalE G e env3 with
        | stuck => rw [z3] at h; cases h
        | exc _ _ _ => rw [z3] at h; cases h
        | ok d env4 =>
          rw [z3] at h
          cases h
          exact .inl ⟨rfl, d, rfl, rfl⟩
theorem lcR_ok {tg : Tg} {own : List Nat} {cs : Es} {e : E} {r : Res (List D)} {ds : List D} {env' : Env} (h : lcR tg own (testAll G cs) (evalE G e) r = .ok ds env') :
    ∃ xs env1 env2, r = .ok xs env1 ∧ lcGo (lcTurn G tg own cs e) xs env1 = .ok ds env2 ∧ xs.length < line ∧ env' = backS env2 env1 own := by
  unfold lcR at h
  cases r with
  | stuck => cases h
  | exc _ _ _ => cases h
  | ok xs env1 =>
    have h : ((lcGo (lcTurn G tg own cs e) xs env1).bind fun ds env' => if xs.length < line then Res.ok ds (backS env' env1 own) else .stuck).calm = .ok ds env' := h
    cases z : lcGo (lcTurn G tg own cs e) xs env1 with
    | stuck => rw [z] at h; cases h
    | exc _ _ _ => rw [z] at h; cases h
    | ok ds' env2 =>
      rw [z] at h
      simp only [Res.bind] at h
      by_cases hl : xs.length < line
      · rw [if_pos hl] at h
        cases h
        exact ⟨xs, env1, env2, rfl, z, hl, rfl⟩
      · rw [if_neg hl] at h; cases h
/-- the invariant of a comprehension's turns -/
def LcI (B : Tb) (G : Cfg) (tg : Tg) (own : List Nat) (cs : Es) (e : E) (σ : L2.St) (F1 H1 : Hp) (env1 : Env) (xs ds : List D) (env2 : Env) (D : Addr) (i : Nat) (Hh : Hp) : Prop :=
  ∃ F2 envi acc vs rest, lcGo (lcTurn G tg own cs e) (xs.drop i) envi = .ok rest env2 ∧ ds = acc ++ rest ∧ acc.length ≤ i ∧ Hh D = some (.lst vs) ∧ F2 D = none ∧ RepL B F2 vs acc ∧
    Fr (Ow (wipeS env1 own) (L2.wipe σ own)) F1 H1 F2 Hh ∧ SR B F2 Hh (L2.wipe σ own) (wipeS envi own) ∧ (∀ b, Ow (wipeS envi own) (L2.wipe σ own) b → Ow (wipeS env1 own) (L2.wipe σ own) b) ∧ envi.length = env1.length
theorem lc_read {tg : Tg} {own : List Nat} {it : It} {cs : Es} {e : E} {ds : List D} {env' : Env} {Q : VK} (S : SR B F H σ env) (hx : lcR tg own (testAll G cs) (evalE G e) (evalIt G it env) = .ok ds env') (hsub : ∀ i ∈ tgSlots tg, i ∈ own)
    (hq : ∀ D F' H', Fr (Ow env σ) F H F' H' → SR B F' H' σ env' → (∀ b, Ow env' σ b → Ow env σ b) → OutR B F' H' σ env' (.ref D) (.fl ds) → Nz H D → Q (.ref D) H') :
    tLc (GI B W (evalIt G it)) (gP B tg) (GTs B G cs) (GE B (fun _ _ _ _ => False) (evalE G e)) own σ H Q := by
  obtain ⟨xs, env1, env2, hit, hgo, hlen, rfl⟩ := lcR_ok hx
  refine ⟨F, env, S, ?_⟩
  rw [hit]
  intro F1 H1 f1 s1 o1 J wJ D hD
  have hF1D : F1 D = none := by
    cases z : F1 D with
    | none => rfl
    | some u => rw [s1.ext D u z] at hD; cases hD
  have nD : ¬ Ow (wipeS env1 own) (L2.wipe σ own) D := fun z => by
    have := (s1.free (ow_wipe z)).2
    exact this (nz_none hD)
  have wk : L2.Walk J xs.length (fun H' => Ex F1 H') (fun i H x H' => ∀ F2, Ex F1 F2 → Ex F2 H → ∃ F3 d, xs[i]? = some d ∧ Fr (fun _ => False) F2 H F3 H' ∧ Ex F3 H' ∧ (∀ b o, H b = some o → H' b = some o) ∧ (∀ b ps, F3 b = some (.tbl ps) → F2 b = some (.tbl ps)) ∧ Rep B F3 x d) :=
    ⟨fun i H hi h => wJ.goes i H hi h, fun H h => wJ.stops H h, fun i H x H' hi h y F2 e1 e2 => wJ.yields i H F2 x H' hi e1 e2 y⟩
  refine lc_it wk (LcI B G tg own cs e σ F1 H1 env1 xs ds env2 D) ?_ (fun i H' _ ⟨F2, envi, acc, vs, rest, _, _, _, _, _, _, fr, sr, _⟩ => fr.ext.trans sr.ext) ?_ ?_
  · have sw := sr_wipe s1 own
    have hx1 : Ex F1 (upd H1 D (.lst [])) := s1.ext.trans (Ex.new hD)
    refine ⟨F1, env1, [], [], ds, hgo, rfl, Nat.le_refl _, upd_same, hF1D, .nil, ⟨Ex.refl _, fun b h n => absurd h n, fun b o h _ _ => (Ex.new hD) b o h, fun b h => nz_new hD h⟩, ?_, fun _ z => z, rfl⟩
    exact sw.keep ⟨Ex.refl _, fun b h n => absurd h n, fun b o h _ _ => (Ex.new hD) b o h, fun b h => nz_new hD h⟩ hx1 (sw.tab.ext (Ex.new hD)) sw.notab
  · rintro i x Hh H' hi ⟨F2, envi, acc, vs, rest, go, hds, hac, hHD, hFD, rl, fr, sr, osub, hln⟩ y
    obtain ⟨F3, d, hd, f3, ex3, up3, nt3, rx⟩ := y F2 fr.ext sr.ext
    have hdrop : xs.drop i = d :: xs.drop (i + 1) := by
      obtain ⟨hlt, hde⟩ := List.getElem?_eq_some_iff.mp hd
      rw [← hde]
      exact List.drop_eq_getElem_cons hlt
    rw [hdrop] at go
    obtain ⟨yv, env4, rest', tn, go', hrest⟩ := lcGo_cons go
    obtain ⟨e2, b, e3, hput, htest, hend⟩ := lcTurn_ok tn
    have s3 := sr_step sr f3 ex3 up3 nt3
    have nDi : ¬ Ow (wipeS envi own) (L2.wipe σ own) D := fun z => nD (osub D z)
    refine ⟨F3, wipeS envi own, d, e2, s3, rx, hput, fun σ2 s2 hσ how => ?_⟩
    have hl2 : σ2.length = σ.length := by
      have h1 := s2.len
      have h2 := s3.len
      rw [wipe_length] at h2
      have h3 : e2.length = (wipeS envi own).length := by
        have := put_length hput
        exact this
      omega
    have hw : L2.wipe σ2 own = L2.wipe σ own := wipe_wipe hl2 fun j hj => hσ j fun z => hj (hsub j z)
    refine ⟨hw, gts_of s2 htest fun F4 H4 f4 s4 o4 => ?_⟩
    -- frames so far
    have A0 : ∀ b, Ow e2 σ2 b → Ow (wipeS env1 own) (L2.wipe σ own) b := fun b z => osub b (how b z)
    have fr3 : Fr (Ow (wipeS env1 own) (L2.wipe σ own)) F1 H1 F3 H' := fr.trans f3 fun _ z => z.elim
    have fr4 : Fr (Ow (wipeS env1 own) (L2.wipe σ own)) F1 H1 F4 H4 := fr3.trans f4 fun b z => .inl (A0 b z)
    have D3 : H' D = some (.lst vs) := up3 D _ hHD
    have F3D : F3 D = none := by
      cases z : F3 D with
      | none => rfl
      | some u =>
        rcases f3.new D hFD (by rw [z]; simp) with w | w
        · exact w.elim
        · exact absurd w (nz_some hHD fun _ z => nomatch z)
    have nD2 : ¬ Ow e2 σ2 D := fun z => nD (A0 D z)
    have D4 : H4 D = some (.lst vs) := f4.keep D _ D3 nD2 (fun _ z => nomatch z)
    have F4D : F4 D = none := by
      cases z : F4 D with
      | none => rfl
      | some u =>
        rcases f4.new D F3D (by rw [z]; simp) with w | w
        · exact absurd w nD2
        · exact absurd w (nz_some D3 fun _ z => nomatch z)
    have len3 : e3.length = env1.length := by
      have h1 := s4.len
      have h2 := s1.len
      omega
    rcases hend with ⟨rfl, d4, hev, hy⟩ | ⟨rfl, hy, he⟩
    · rw [if_pos rfl]
      refine ⟨F4, e3, s4, ?_⟩
      rw [hev]
      intro F5 H5 f5 s5 o5 v rv
      have nD3 : ¬ Ow e3 σ2 D := fun z => nD2 (o4 D z)
      have fr5 : Fr (Ow (wipeS env1 own) (L2.wipe σ own)) F1 H1 F5 H5 := fr4.trans f5 fun b z => .inl (A0 b (o4 b z))
      have D5 : H5 D = some (.lst vs) := f5.keep D _ D4 nD3 (fun _ z => nomatch z)
      have F5D : F5 D = none := by
        cases z : F5 D with
        | none => rfl
        | some u =>
          rcases f5.new D F4D (by rw [z]; simp) with w | w
          · exact absurd w nD3
          · exact absurd w (nz_some D4 fun _ z => nomatch z)
      have nD4 : ¬ Ow env4 σ2 D := fun z => nD3 (o5 D z)
      have sw := sr_wipe (sr_upd (ys := vs ++ [v]) s5 D5 F5D nD4) own
      rw [hw] at sw
      have rl5 : RepL B F5 vs acc := rl.ex ((f3.ext.trans f4.ext).trans f5.ext)
      refine ⟨vs, D5, by rw [rl.length, lineEq]; show acc.length < line; omega, F5, env4, acc ++ [d4], vs ++ [v], rest', go', ?_, ?_, upd_same, F5D, rl5.append (.cons rv .nil), ⟨fr5.ext, fr5.new, fun b o hb hA ht => ?_, fun b hb => fr5.there b (nz_mod (fun _ (z : HO.lst (vs ++ [v]) = .tbl _) => HO.noConfusion z) hb)⟩, sw, fun b z => ?_, ?_⟩
      · subst hy
        rw [hds, hrest]
        simp
      · simp; omega
      · have hne : b ≠ D := fun z => by rw [z, hD] at hb; cases hb
        rw [upd_ne hne]
        exact fr5.keep b o hb hA ht
      · rw [← hw] at z
        exact A0 b (o4 b (o5 b (ow_wipe z)))
      · have h1 := s5.len
        have h2 := s1.len
        omega
    · rw [if_neg (by simp)]
      subst he
      have sw := sr_wipe s4 own
      rw [hw] at sw
      refine ⟨F4, env4, acc, vs, rest', go', ?_, by omega, D4, F4D, rl.ex (f3.ext.trans f4.ext), fr4, sw, fun b z => ?_, len3⟩
      · subst hy
        rw [hds, hrest]
      · rw [← hw] at z
        exact A0 b (o4 b (ow_wipe z))
  · rintro Hh ⟨F2, envi, acc, vs, rest, go, hds, hac, hHD, hFD, rl, fr, sr, osub, hln⟩
    rw [List.drop_length] at go
    simp only [lcGo] at go
    cases go
    simp only [List.append_nil] at hds
    subst hds
    -- the state behind
    have frA : Fr (Ow env1 σ) F1 H1 F2 Hh := fr.mono fun b z => ow_wipe z
    have sb : SR B F2 Hh σ (backS env2 env1 own) := by
      refine ⟨sr.ext, sr.tab, sr.notab, by rw [backS_length, hln]; exact s1.len, fun j => ?_, fun a b p h1 h2 h3 h4 => ?_⟩
      · rw [backS_at _ _ hln]
        by_cases hj : j ∈ own
        · rw [if_pos hj]
          refine (s1.slot j).keep fr sr.ext fun ho p hp z => ?_
          obtain ⟨m, q1, q2⟩ := z
          rw [wipeS_at] at q1
          split at q1
          · cases q1
          · rename_i hm
            rw [wipe_at, if_neg (fun z => hm z.1)] at q2
            exact hm (s1.apart j m p ho q1 hp q2 ▸ hj)
        · rw [if_neg hj]
          have := sr.slot j
          rw [wipeS_at, if_neg hj, wipe_at, if_neg (fun z => hj z.1)] at this
          exact this
      · rw [backS_at _ _ hln] at h1 h2
        have inn : ∀ j, j ∉ own → isOwn (getS env2 j) = true → σ[j]? = some (some (V.ref p)) → ∃ m, m ∉ own ∧ isOwn (getS env1 m) = true ∧ σ[m]? = some (some (V.ref p)) := fun j hj g1 g2 => by
          obtain ⟨m, q1, q2⟩ := osub p ⟨j, by rw [wipeS_at, if_neg hj]; exact g1, by rw [wipe_at, if_neg (fun z => hj z.1)]; exact g2⟩
          rw [wipeS_at] at q1
          split at q1
          · cases q1
          · rename_i hm
            rw [wipe_at, if_neg (fun z => hm z.1)] at q2
            exact ⟨m, hm, q1, q2⟩
        by_cases ha : a ∈ own
        · rw [if_pos ha] at h1
          by_cases hb : b ∈ own
          · rw [if_pos hb] at h2
            exact s1.apart a b p h1 h2 h3 h4
          · rw [if_neg hb] at h2
            obtain ⟨m, hm, q1, q2⟩ := inn b hb h2 h4
            exact absurd (s1.apart a m p h1 q1 h3 q2 ▸ ha) hm
        · rw [if_neg ha] at h1
          by_cases hb : b ∈ own
          · rw [if_pos hb] at h2
            obtain ⟨m, hm, q1, q2⟩ := inn a ha h1 h3
            exact absurd (s1.apart b m p h2 q1 h4 q2 ▸ hb) hm
          · rw [if_neg hb] at h2
            exact sr.apart a b p (by rw [wipeS_at, if_neg ha]; exact h1) (by rw [wipeS_at, if_neg hb]; exact h2) (by rw [wipe_at, if_neg (fun z => ha z.1)]; exact h3) (by rw [wipe_at, if_neg (fun z => hb z.1)]; exact h4)
    have ob : ∀ b, Ow (backS env2 env1 own) σ b → Ow env1 σ b := fun b ⟨j, g1, g2⟩ => by
      rw [backS_at _ _ hln] at g1
      by_cases hj : j ∈ own
      · rw [if_pos hj] at g1
        exact ⟨j, g1, g2⟩
      · rw [if_neg hj] at g1
        exact ow_wipe (osub b ⟨j, by rw [wipeS_at, if_neg hj]; exact g1, by rw [wipe_at, if_neg (fun z => hj z.1)]; exact g2⟩)
    have hHn : Nz H D := f1.there D (nz_none hD)
    refine hq D F2 Hh (f1.trans frA fun b z => .inl (o1 b z)) sb (fun b z => o1 b (ob b z)) ⟨⟨D, vs, rfl, hFD, hHD, rl⟩, (fun z => nomatch z), fun _ p hp z => ?_⟩ hHn
    cases hp
    exact (s1.free (ob _ z)).2 (nz_none hD)
end
end Py
end
section
set_option Elab.async false
set_option linter.all false
set_option maxRecDepth 100000
set_option maxHeartbeats 4000000
/-! Py over HandS: expressions, all. -/
namespace Py
open PySem PySem.Spec PyProof.Rows L2
section
variable {B : Tb} {P : Prg} {G : Cfg} {N : List Str} {k : Bk} {W : WX} {X : Cx}
theorem At.blk (A : At B P G N k W X) (s : Shared) (H : Hp) (scope : Scope) (C : Addr) (cl : List (Str × Addr)) (fp : List Addr) : At B P G N (blkB k scope) (fun _ _ _ _ => False) (X.blk s H scope (compEnvC scope cl C X.env) fp) := by
  obtain ⟨⟨⟨k1, k2, k3, k4, k5, k6, k7⟩, ⟨c1⟩, s1, s2, s3, s4⟩, hN, hs, hc, tk, _⟩ := A
  refine ⟨⟨⟨k1, k2, k3, k4, k5, k6, k7⟩, ⟨c1⟩, s1, s2, s3, s4⟩, hN, ?_, fun x h => h, LamX.takes0, fun h => nomatch h⟩
  show relS scope X.env.scope = relS scope k.sc
  rw [hs]
theorem fold_of {e : Expr} (h : noSet e = true) (env : PySem.Env) (x : Value) : foldedSetIterable e env x = pure x := by
  cases e <;> first | rfl | cases h
theorem own_snd (N : List Str) (own : List Nat) : (ownN N own).map (·.2) = own := by
  unfold ownN
  rw [List.map_map]
  exact List.map_id' _ |>.symm ▸ (by simp [Function.comp_def])
theorem lc_pe (A : At B P G N k W X) {tg : Tg} {own : List Nat} {it : It} {cs : Es} {e : E} {t iter elt : Expr} {ifs : List Expr} {scope : Scope} {pos : Pos} (hb : blkC N k.sc scope (ownN N own) = true) (hi : PI X t iter (GI B W (evalIt G it)))
    (ht : chkTg N (blkB k scope) tg t = true)
    (hts : ∀ (X' : Cx), At B P G N (blkB k scope) (fun _ _ _ _ => False) X' → PTs X' ifs (GTs B G cs)) (he : ∀ (X' : Cx), At B P G N (blkB k scope) (fun _ _ _ _ => False) X' → SE B (fun _ _ _ _ => False) G X' e elt) (hn : noBor e = true) (hs : noSet iter = true) :
    PE X (.ListComp elt [⟨t, iter, ifs, 0⟩] scope pos) (tLc (GI B W (evalIt G it)) (gP B tg) (GTs B G cs) (GE B (fun _ _ _ _ => False) (evalE G e)) own) := by
  have h := pe_lc (pos := pos) A.S.O.calm A.S.O.nd hi (blkOk_by (by rw [A.hN, A.hs]; exact hb)) (fun s H C cl fp => pg_ok (A.blk s H scope C cl fp) tg t ht) (fun s H C cl fp => hts _ (A.blk s H scope C cl fp)) (fun s H C cl fp => (he _ (A.blk s H scope C cl fp)).ge hn) (fold_of hs X.env)
  rw [own_snd] at h
  exact h
/-- a comprehension's reading, from what the interpreter tells -/
theorem lc_ge {tg : Tg} {own : List Nat} {it : It} {cs : Es} {e : E} (hsub : ∀ i ∈ tgSlots tg, i ∈ own) {σ : L2.St} {H : Hp} {Q : VK} (h : GE B W (evalE G (.lc tg own it cs e)) σ H Q) :
    tLc (GI B W (evalIt G it)) (gP B tg) (GTs B G cs) (GE B (fun _ _ _ _ => False) (evalE G e)) own σ H Q := by
  obtain ⟨F, env, S, t⟩ := h
  rw [evalE] at t
  cases z : lcR tg own (testAll G cs) (evalE G e) (evalIt G it env) with
  | stuck => rw [z] at t; exact t.elim
  | exc c ds env' =>
    exfalso
    unfold lcR at z
    generalize Res.bind _ _ = r at z
    cases r <;> cases z
  | ok ds env' =>
    rw [z] at t
    refine lc_read S z hsub fun D F' H' f s o out hD => ?_
    obtain ⟨F2, e1, e2, s2, r⟩ := freeze_out s out (d := .lst ds) rfl
    refine t F2 H' ⟨f.ext.trans e1, fun b h1 h2 => ?_, f.keep, f.there⟩ s2 o (.ref D) r
    cases w : F' b with
    | none =>
      obtain ⟨_, hv⟩ := e2 b w h2
      cases hv
      exact .inr hD
    | some u => exact f.new b h1 (by rw [w]; simp)
theorem lc_go {tg : Tg} {own : List Nat} {it : It} {cs : Es} {e : E} (hsub : ∀ i ∈ tgSlots tg, i ∈ own) {σ : L2.St} {H : Hp} {Q : VK} (h : GO B W (evalO G (.lc tg own it cs e)) σ H Q) :
    tLc (GI B W (evalIt G it)) (gP B tg) (GTs B G cs) (GE B (fun _ _ _ _ => False) (evalE G e)) own σ H Q := by
  obtain ⟨F, env, S, t⟩ := h
  rw [evalO] at t
  cases z : lcR tg own (testAll G cs) (evalE G e) (evalIt G it env) with
  | stuck => rw [z] at t; exact t.elim
  | exc c ds env' =>
    exfalso
    unfold lcR at z
    generalize Res.bind _ _ = r at z
    cases r <;> cases z
  | ok ds env' =>
    rw [z] at t
    exact lc_read S z hsub fun D F' H' f s o out hD => t (.ref D) F' H' f s o out fun _ p hp => by cases hp; exact .inr hD

theorem sl_part {lo : E} {l : Option Expr} (h1 : l = none → lo = .non) (h2 : ∀ y, l = some y → SE B W G X lo y ∧ isNonE lo = false ∧ noBor lo = true) : PO X l (GPt B W fun env => partR (isNonE lo) (evalE G lo env)) := by
  cases l with
  | none =>
    cases h1 rfl
    exact po_non
  | some y =>
    obtain ⟨a, b, c⟩ := h2 y rfl
    exact po_of a b c
theorem chk_part {P : Prg} {N : List Str} {k : Bk} {lo : E} {l : Option Expr} (h : (match lo, l with
    | .non, none => true
    | .non, some _ => false
    | lo, some y => chkE P N k lo y && noBor lo
    | _, none => false) = true) : (l = none → lo = .non) ∧ ∀ y, l = some y → chkE P N k lo y = true ∧ isNonE lo = false ∧ noBor lo = true := by
  cases l with
  | none => cases lo <;> first | exact ⟨fun _ => rfl, fun y e => nomatch e⟩ | cases h
  | some y =>
    refine ⟨fun e => (nomatch e), fun y' e => ?_⟩
    cases e
    cases lo <;> first | (cases h; done) | (simp only [Bool.and_eq_true] at h; exact ⟨h.1, rfl, h.2⟩)
/-! ### words -/
theorem sr_extn {F H H1 : Hp} {σ : L2.St} {env : Env} {Am : Addr → Prop} (S : SR B F H σ env) (e : LamX.ExtN H H1) (t : LamX.Tabs B.T H1) : SR B F H1 σ env ∧ Fr Am F H F H1 := by
  have hx : Ex F H1 := fun b o h => e b o (S.ext b o h) fun ps z => S.notab b ps (by rw [← z]; exact h)
  have f : ∀ A : Addr → Prop, Fr A F H F H1 := fun A => ⟨Ex.refl F, fun b h n => absurd h n, fun b o h _ ht => e b o h ht, fun b h o ho => by
    cases o with
    | tbl ps => exact ⟨ps, rfl⟩
    | _ => exact h _ (e b _ ho fun ps z => nomatch z)⟩
  exact ⟨S.keep (f _) hx t S.notab, f _⟩
theorem se_word (A : At B P G N k W X) (hw : k.words = true) {f : Nat} {e : E} {x : Str} {body : Expr} {scope : Scope} {p lpos pos : Pos} (hf : f < P.nw) (hg : isGl k.sc x (P.wn f) = true) (hd : (x == ("__debug__" : Str)) = false) (hl : LamX.lamSB k.sc scope = true) (hb : noBor e = true)
    (he : ∀ (W' : WX) (X' : Cx), At B P G N ⟨scope, fun _ => false, false⟩ W' X' → SE B W' G X' e body) : SE B W G X (.word f e) (.Call (.Name x p) [.Lambda ⟨[], [], none, [], [], none, []⟩ body scope lpos] [] pos) := by
  obtain ⟨rfl, hgl⟩ := gl_of A.hs hg
  obtain ⟨⟨c, P', TB, hcode, hmT, hu⟩, ⟨j, hr, hsk⟩, wds⟩ := A.wd hw
  obtain ⟨g, pg, bg, sg, dV, kV, doc, pm, cdv, ct, oc, an, od, osl, Ng, a, hm, hk, lk, hcg, hbn, Sg, hNg, hva, hda, hcda, hG⟩ := (wds f hf).ex
  have L : LamX.LamS X.env.scope scope := LamX.lamS_by (by rw [A.hs]; exact hl)
  refine se_val rfl (LamX.pe_lamcall (T := B.T) (t := fun E => GE B (fun cls d _ H' => E cls d H') (evalE G e)) hgl hm hk lk hcg hbn Sg hNg hva (hG _) TB hcode hmT hu hr L rfl (fun _ _ _ _ _ => rfl) (fun A' outer s H E f' c' hr' => ?_) hd hda hcda) (fun σ H Q ⟨F, env, S, t⟩ => ⟨S.tab, fun H1 eN T1 T0 hT0 => ?_⟩) rfl
  · refine (he _ _ ⟨hsk A' outer s H E scope f' c' hr', A.hN, rfl, (fun x h => nomatch h), takes_of rfl rfl rfl rfl, (fun h => nomatch h)⟩).ge hb
  · rw [evalE] at t
    obtain ⟨S1, f1⟩ := sr_extn (Am := Ow env σ) S eN T1
    have hx0 : Ex F (upd H1 T0 (.tup [.str "other"])) := S1.ext.trans (Ex.new hT0)
    have f2 : Fr (fun _ => False) F H1 F (upd H1 T0 (.tup [.str "other"])) := ⟨Ex.refl F, fun b h n => absurd h n, fun b u h _ _ => (Ex.new hT0) b u h, fun b h => nz_new hT0 h⟩
    have S2 : SR B F (upd H1 T0 (.tup [.str "other"])) σ env := S1.keep f2 hx0 (S1.tab.ext (Ex.new hT0)) S1.notab
    have f3 : Fr (Ow env σ) F H F (upd H1 T0 (.tup [.str "other"])) := f1.trans f2 fun _ z => z.elim
    refine ⟨F, env, S2, ?_⟩
    cases z : evalE G e env with
    | stuck => rw [z] at t; exact t
    | ok d env' =>
      rw [z] at t
      intro F' H' fr sr ow v rv q hq
      have f4 := fr_new (F := F') (o := .tup [.str "told", v]) hq sr.ext
      refine t _ _ ((f3.trans fr fun b z => .inl z).trans f4 fun _ z => z.elim) (sr_step sr f4 (ex_new sr.ext) (up_new hq) (nt_new fun ps z => nomatch z)) ow (.ref q) ?_
      exact .tup (.inl (.inl upd_same)) (.cons (str_rep _ rfl) (.cons (rv.ex f4.ext) .nil))
    | exc c ds env' =>
      rw [z] at t
      cases ds with
      | cons _ _ => exact t.elim
      | nil =>
        intro F' H' dd fr sr ow er
        cases zf : G.flag f c with
        | none => simp only [wordR, zf] at t; exact t.elim
        | some i =>
          simp only [wordR, zf] at t
          rcases er with ⟨_, rfl⟩ | ⟨hn, _⟩
          · refine ⟨c, i, rfl, rfl, zf, fun Ls bs q hL hq => ?_⟩
            have hxL : Ex F' (upd H' Ls (.lst bs)) := sr.ext.trans (Ex.new hL)
            have f4 : Fr (fun _ => False) F' H' F' (upd H' Ls (.lst bs)) := ⟨Ex.refl F', fun b h n => absurd h n, fun b u h _ _ => (Ex.new hL) b u h, fun b h => nz_new hL h⟩
            have s4 : SR B F' (upd H' Ls (.lst bs)) σ env' := sr.keep f4 hxL (sr.tab.ext (Ex.new hL)) sr.notab
            have f5 := fr_new (F := F') (o := .tup [.int (i : Nat)]) hq s4.ext
            refine t _ _ (((f3.trans fr fun b z => .inl z).trans f4 fun _ z => z.elim).trans f5 fun _ z => z.elim) (sr_step s4 f5 (ex_new s4.ext) (up_new hq) (nt_new fun ps z => nomatch z)) ow (.ref q) ?_
            exact .tup (.inl (.inl upd_same)) (.cons (.int _) .nil)
          · exact absurd rfl hn
theorem PW.mono {e : Expr} {t t' : TT} (h : PW X e t) (i : ∀ σ H Q, t' σ H Q → t σ H Q) : PW X e t' := ⟨fun w pins s σ H Q I q => h.run w pins s σ H Q I (i σ H Q q)⟩
def lcChk (P : Prg) (N : List Str) (k : Bk) (tg : Tg) (own : List Nat) (it : It) (cs : Es) (e : E) (elt t iter : Expr) (ifs : List Expr) (scope : Scope) : Bool :=
  blkC N k.sc scope (ownN N own) && chkIt P N k it iter t && chkTg N (blkB k scope) tg t && (tgSlots tg).all own.contains && chkEs P N (blkB k scope) cs ifs && chkE P N (blkB k scope) e elt && noBor e && oneT cs && noSet iter
mutual
theorem sndE : ∀ (e : E) (k : Bk) (W : WX) (X : Cx) (ast : Expr), At B P G N k W X → chkE P N k e ast = true → SE B W G X e ast
  | .non, k, W, X, ast, A, h => by
    cases ast <;> first | (simp only [chkE] at h; cases h; done) | skip
    rename_i c j pos
    cases c <;> first | (simp only [chkE] at h; cases h; done) | skip
    exact se_tC rfl (fun _ => by rw [evalE]) pe_non (fun _ => .non) rfl
  | .bl b, k, W, X, ast, A, h => by
    cases ast <;> first | (simp only [chkE] at h; cases h; done) | skip
    rename_i c j pos
    cases c <;> first | (simp only [chkE] at h; cases h; done) | skip
    simp only [chkE, beq_iff_eq] at h
    subst h
    exact se_tC rfl (fun _ => by rw [evalE]) pe_bl (fun _ => .bl b) rfl
  | .int i, k, W, X, ast, A, h => by
    cases ast <;> first | (simp only [chkE] at h; cases h; done) | skip
    rename_i c j pos
    cases c <;> first | (simp only [chkE] at h; cases h; done) | skip
    simp only [chkE, beq_iff_eq] at h
    subst h
    exact se_tC rfl (fun _ => by rw [evalE]) pe_int (fun _ => .int i) rfl
  | .str s, k, W, X, ast, A, h => by
    cases ast <;> first | (simp only [chkE] at h; cases h; done) | skip
    rename_i c j pos
    cases c <;> first | (simp only [chkE] at h; cases h; done) | skip
    simp only [chkE, beq_iff_eq] at h
    exact se_tC rfl (fun _ => by rw [evalE]) pe_str (fun _ => str_rep _ h) rfl
  | .var i, k, W, X, ast, A, h => se_var A (by simpa only [chkE] using h)
  | .bor i, k, W, X, ast, A, h => se_bor A (by simpa only [chkE] using h)
  | .glb g, k, W, X, ast, A, h => by
    cases ast <;> first | (simp only [chkE] at h; cases h; done) | skip
    rename_i x p
    simp only [chkE, Bool.and_eq_true, decide_eq_true_eq] at h
    obtain ⟨u, v, h1, h2, h3, h4⟩ := A.S.gl g h.2
    obtain ⟨rfl, hg⟩ := gl_of A.hs h.1
    exact se_tC rfl (fun _ => by rw [evalE]) (pe_glob hg h1 h2 h4) h3 rfl
  | .op o es, k, W, X, ast, A, h => by
    unfold chkE at h
    simp only [Bool.and_eq_true] at h
    obtain ⟨hk, h⟩ := h
    split at h
    · rename_i c hc
      split at h
      · simp only [Bool.and_eq_true, decide_eq_true_eq] at h
        obtain ⟨rfl, h⟩ := h
        exact se_cmp A hc (sndEs es k W X _ A h).1
      · cases h
    · split at h
      · rename_i as ha
        exact se_op A hk ha (sndEs es k W X _ A h).1
      · cases h
  | .and es, k, W, X, ast, A, h => by
    cases ast <;> first | (simp only [chkE] at h; cases h; done) | skip
    rename_i o xs pos
    cases o <;> first | (simp only [chkE] at h; cases h; done) | skip
    simp only [chkE, Bool.and_eq_true] at h
    obtain ⟨h1, h2⟩ := sndAnd es k W X xs pos A h.1 h.2
    refine ⟨PE.mono h1 fun σ H Q q => ?_, fun _ => PT.mono h2.pt fun σ H Q q => ?_⟩
    · have q : GE B W (evalE G (.and es)) σ H Q := q
      have e : evalE G (.and es) = evalAnd G es := by funext env; rw [evalE]
      rw [e] at q
      exact q
    · have e : evalE G (.and es) = evalAnd G es := by funext env; rw [evalE]
      rw [e] at q
      exact q
  | .or es, k, W, X, ast, A, h => by
    cases ast <;> first | (simp only [chkE] at h; cases h; done) | skip
    rename_i o xs pos
    cases o <;> first | (simp only [chkE] at h; cases h; done) | skip
    simp only [chkE, Bool.and_eq_true] at h
    obtain ⟨h1, h2⟩ := sndOr es k W X xs pos A h.1 h.2
    refine ⟨PE.mono h1 fun σ H Q q => ?_, fun _ => PT.mono h2.pt fun σ H Q q => ?_⟩
    · have q : GE B W (evalE G (.or es)) σ H Q := q
      have e : evalE G (.or es) = evalOr G es := by funext env; rw [evalE]
      rw [e] at q
      exact q
    · have e : evalE G (.or es) = evalOr G es := by funext env; rw [evalE]
      rw [e] at q
      exact q
  | .not a, k, W, X, ast, A, h => by
    cases ast <;> first | (simp only [chkE] at h; cases h; done) | skip
    rename_i o x pos
    cases o <;> first | (simp only [chkE] at h; cases h; done) | skip
    simp only [chkE, Bool.and_eq_true] at h
    exact se_not (sndE a k W X x A h.1) h.2
  | .ite c a b, k, W, X, ast, A, h => by
    cases ast <;> first | (simp only [chkE] at h; cases h; done) | skip
    rename_i t x y pos
    simp only [chkE, Bool.and_eq_true] at h
    obtain ⟨⟨⟨⟨⟨h1, h2⟩, h3⟩, h4⟩, h5⟩, h6⟩ := h
    exact se_ite (sndE c k W X _ A h1) (sndE a k W X _ A h2) (sndE b k W X _ A h3) h4 h5 h6
  | .ch o1 o2 a b c, k, W, X, ast, A, h => by
    cases ast <;> first | (simp only [chkE] at h; cases h; done) | skip
    unfold chkE at h
    split at h <;> first | contradiction | skip
    rename_i heq1 heq2
    cases heq1
    cases heq2
    simp only [Bool.and_eq_true, decide_eq_true_eq] at h
    obtain ⟨⟨⟨⟨⟨⟨⟨h1, h2⟩, h3⟩, h4⟩, h5⟩, h6⟩, h7⟩, h8⟩ := h
    exact se_ch A h1 h2 (sndE a k W X _ A h3) (sndE b k W X _ A h4) (sndE c k W X _ A h5) h6 h7 h8
  | .sl a lo hi, k, W, X, ast, A, h => by
    cases ast <;> first | (simp only [chkE] at h; cases h; done) | skip
    rename_i x ix pos
    cases ix <;> first | (simp only [chkE] at h; cases h; done) | skip
    rename_i l h' st p2
    cases st <;> first | (simp only [chkE] at h; cases h; done) | skip
    unfold chkE at h
    rw [Bool.and_eq_true, Bool.and_eq_true] at h
    obtain ⟨⟨h1, h2⟩, h3⟩ := h
    obtain ⟨a1, a2⟩ := chk_part h2
    obtain ⟨b1, b2⟩ := chk_part h3
    refine se_sl A (sndE a k W X x A h1) (sl_part a1 fun y e => ?_) (sl_part b1 fun y e => ?_)
    · obtain ⟨c1, c2, c3⟩ := a2 y e
      exact ⟨sndE lo k W X y A c1, c2, c3⟩
    · obtain ⟨c1, c2, c3⟩ := b2 y e
      exact ⟨sndE hi k W X y A c1, c2, c3⟩
  | .att a f, k, W, X, ast, A, h => by
    cases ast <;> simp only [chkE] at h <;> cases h
  | .tup es, k, W, X, ast, A, h => by
    cases ast <;> first | (simp only [chkE] at h; cases h; done) | skip
    rename_i xs k1 pos
    simp only [chkE] at h
    obtain ⟨h1, h2⟩ := sndEs es k W X xs A h
    exact se_tup h1 h2
  | .lst es, k, W, X, ast, A, h => by
    cases ast <;> first | (simp only [chkE] at h; cases h; done) | skip
    rename_i xs pos
    simp only [chkE] at h
    obtain ⟨h1, h2⟩ := sndEs es k W X xs A h
    exact se_lst h1 h2
  | .dnew, k, W, X, ast, A, h => by
    cases ast <;> first | (simp only [chkE] at h; cases h; done) | skip
    rename_i ks vs pos
    cases ks <;> first | (simp only [chkE] at h; cases h; done) | skip
    cases vs <;> first | (simp only [chkE] at h; cases h; done) | skip
    exact se_dnew
  | .call f es, k, W, X, ast, A, h => by
    cases ast <;> first | (simp only [chkE] at h; cases h; done) | skip
    rename_i fn as kws pos
    cases fn <;> first | (simp only [chkE] at h; cases h; done) | skip
    cases kws <;> first | (simp only [chkE] at h; cases h; done) | skip
    rename_i x p
    simp only [chkE, Bool.and_eq_true, decide_eq_true_eq, Bool.not_eq_true'] at h
    obtain ⟨⟨⟨h1, h2⟩, h3⟩, h4⟩ := h
    obtain ⟨q1, q2⟩ := sndEs es k W X as A h3
    exact se_call A h2 h1 h4 q1 q2
  | .mk c es, k, W, X, ast, A, h => by
    cases ast <;> simp only [chkE] at h <;> cases h
  | .lc tg own it cs e, k, W, X, ast, A, h => by
    cases ast <;> first | (simp only [chkE] at h; cases h; done) | skip
    rename_i elt gs scope pos
    obtain ⟨t, iter, ifs, rfl, hl⟩ : ∃ t iter ifs, gs = [⟨t, iter, ifs, 0⟩] ∧ lcChk P N k tg own it cs e elt t iter ifs scope = true := by
      unfold chkE at h
      split at h <;> first | contradiction | skip
      rename_i heq1 heq2
      cases heq1
      cases heq2
      exact ⟨_, _, _, rfl, h⟩
    unfold lcChk at hl
    simp only [Bool.and_eq_true] at hl
    obtain ⟨⟨⟨⟨⟨⟨⟨⟨h1, h2⟩, h3⟩, h4⟩, h5⟩, h6⟩, h7⟩, h8⟩, h9⟩ := hl
    have hsub : ∀ i ∈ tgSlots tg, i ∈ own := fun i hi => by simpa using (List.all_eq_true.mp h4) i hi
    exact se_val rfl (lc_pe A h1 (sndIt it k W X iter t A h2) h3 (fun X' A' => sndTs cs (blkB k scope) X' ifs A' h5 h8) (fun X' A' => sndE e (blkB k scope) _ X' elt A' h6) h7 h9) (fun σ H Q q => lc_ge hsub q) rfl
  | .word f e, k, W, X, ast, A, h => by
    cases ast <;> first | (simp only [chkE] at h; cases h; done) | skip
    unfold chkE at h
    split at h <;> first | contradiction | skip
    rename_i heq1 heq2
    cases heq1
    cases heq2
    simp only [Bool.and_eq_true, decide_eq_true_eq, Bool.not_eq_true'] at h
    obtain ⟨⟨⟨⟨⟨⟨h1, h2⟩, h3⟩, h4⟩, h5⟩, h6⟩, h7⟩ := h
    exact se_word A h3 h2 h1 h7 h4 h6 fun W' X' A' => sndE e _ W' X' _ A' h5
theorem sndEs : ∀ (es : Es) (k : Bk) (W : WX) (X : Cx) (as : List Expr), At B P G N k W X → chkEs P N k es as = true → PEs X as (GAs B W G es) ∧ as.all noStar = true
  | .nil, k, W, X, [], A, h => ⟨.nil, rfl⟩
  | .cons e es, k, W, X, x :: xs, A, h => by
    simp only [chkEs, Bool.and_eq_true] at h
    obtain ⟨h1, h2⟩ := sndEs es k W X xs A h.2
    exact ⟨.cons (sndE e k W X x A h.1.1).pe (ga_mono e) h1, by rw [List.all_cons, h.1.2, h2]; rfl⟩
  | .nil, k, W, X, _ :: _, A, h => by simp [chkEs] at h
  | .cons _ _, k, W, X, [], A, h => by simp [chkEs] at h
theorem sndAnd : ∀ (es : Es) (k : Bk) (W : WX) (X : Cx) (as : List Expr) (pos : Pos), At B P G N k W X → chkEs P N k es as = true → tOks es = true → PE X (.BoolOp .And as pos) (GE B W (evalAnd G es)) ∧ PW X (.BoolOp .And as pos) (GT B W (evalAnd G es))
  | .nil, k, W, X, _, pos, A, h, _ => ⟨⟨fun _ _ _ _ _ _ ⟨_, _, _, t⟩ => by rw [evalAnd] at t; exact t.elim⟩, ⟨fun _ _ _ _ _ _ _ ⟨_, _, _, t⟩ => by rw [evalAnd] at t; exact t.elim⟩⟩
  | .cons e es, k, W, X, [], pos, A, h, _ => by simp [chkEs] at h
  | .cons e .nil, k, W, X, [x], pos, A, h, ht => by
    simp only [chkEs, tOks, Bool.and_eq_true] at h ht
    have q := sndE e k W X x A h.1.1
    exact ⟨PE.mono (pe_one (q.ge (tOk_nb ht.1))) fun σ H Q w => ge_one w, PW.mono (pw_and1 (q.pt ht.1)) fun σ H Q w => gt_one w⟩
  | .cons e (.cons e2 es), k, W, X, x :: y :: xs, pos, A, h, ht => by
    rw [chkEs, Bool.and_eq_true, Bool.and_eq_true] at h
    rw [tOks, Bool.and_eq_true] at ht
    have q := sndE e k W X x A h.1.1
    obtain ⟨r1, r2⟩ := sndAnd (.cons e2 es) k W X (y :: xs) pos A h.2 ht.2
    exact ⟨PE.mono (pe_and (q.ge (tOk_nb ht.1)) r1) fun σ H Q w => ge_and w, PW.mono (pw_and (q.pt ht.1) r2) fun σ H Q w => gt_and w⟩
  | .cons e .nil, k, W, X, x :: y :: xs, pos, A, h, _ => by simp [chkEs] at h
  | .cons e (.cons e2 es), k, W, X, [x], pos, A, h, _ => by simp [chkEs] at h
theorem sndOr : ∀ (es : Es) (k : Bk) (W : WX) (X : Cx) (as : List Expr) (pos : Pos), At B P G N k W X → chkEs P N k es as = true → tOks es = true → PE X (.BoolOp .Or as pos) (GE B W (evalOr G es)) ∧ PW X (.BoolOp .Or as pos) (GT B W (evalOr G es))
  | .nil, k, W, X, _, pos, A, h, _ => ⟨⟨fun _ _ _ _ _ _ ⟨_, _, _, t⟩ => by rw [evalOr] at t; exact t.elim⟩, ⟨fun _ _ _ _ _ _ _ ⟨_, _, _, t⟩ => by rw [evalOr] at t; exact t.elim⟩⟩
  | .cons e es, k, W, X, [], pos, A, h, _ => by simp [chkEs] at h
  | .cons e .nil, k, W, X, [x], pos, A, h, ht => by
    simp only [chkEs, tOks, Bool.and_eq_true] at h ht
    have q := sndE e k W X x A h.1.1
    exact ⟨PE.mono (pe_one (q.ge (tOk_nb ht.1))) fun σ H Q w => ge_one' w, PW.mono (pw_or1 (q.pt ht.1)) fun σ H Q w => gt_one' w⟩
  | .cons e (.cons e2 es), k, W, X, x :: y :: xs, pos, A, h, ht => by
    rw [chkEs, Bool.and_eq_true, Bool.and_eq_true] at h
    rw [tOks, Bool.and_eq_true] at ht
    have q := sndE e k W X x A h.1.1
    obtain ⟨r1, r2⟩ := sndOr (.cons e2 es) k W X (y :: xs) pos A h.2 ht.2
    exact ⟨PE.mono (pe_or (q.ge (tOk_nb ht.1)) r1) fun σ H Q w => ge_or w, PW.mono (pw_or (q.pt ht.1) r2) fun σ H Q w => gt_or w⟩
  | .cons e .nil, k, W, X, x :: y :: xs, pos, A, h, _ => by simp [chkEs] at h
  | .cons e (.cons e2 es), k, W, X, [x], pos, A, h, _ => by simp [chkEs] at h
theorem sndTs : ∀ (cs : Es) (k : Bk) (X : Cx) (ifs : List Expr), At B P G N k (fun _ _ _ _ => False) X → chkEs P N k cs ifs = true → oneT cs = true → PTs X ifs (GTs B G cs)
  | .nil, k, X, [], A, h, _ => pts_nil
  | .nil, k, X, _ :: _, A, h, _ => by simp [chkEs] at h
  | .cons c .nil, k, X, [x], A, h, ht => by
    simp only [chkEs, Bool.and_eq_true] at h
    exact pts_one ((sndE c k _ X x A h.1.1).pt ht)
  | .cons c .nil, k, X, [], A, h, _ => by simp [chkEs] at h
  | .cons c .nil, k, X, _ :: _ :: _, A, h, _ => by simp [chkEs] at h
  | .cons c (.cons _ _), k, X, _, A, h, ht => by simp [oneT] at ht
theorem sndIt : ∀ (it : It) (k : Bk) (W : WX) (X : Cx) (iter tg : Expr), At B P G N k W X → chkIt P N k it iter tg = true → PI X tg iter (GI B W (evalIt G it))
  | .seq e, k, W, X, iter, tg, A, h => by
    simp only [chkIt, Bool.and_eq_true] at h
    exact gi_seq A (sndE e k W X iter A h.1) h.2
  | .range es, k, W, X, iter, tg, A, h => by
    cases iter <;> first | (simp only [chkIt] at h; cases h; done) | skip
    rename_i fn as kws pos
    cases fn <;> first | (simp only [chkIt] at h; cases h; done) | skip
    cases kws <;> first | (simp only [chkIt] at h; cases h; done) | skip
    rename_i x p
    simp only [chkIt, Bool.and_eq_true, decide_eq_true_eq] at h
    obtain ⟨⟨⟨h1, h2⟩, h3⟩, h4⟩ := h
    obtain ⟨q1, q2⟩ := sndEs es k W X as A h2
    exact gi_range A h1 q1 q2 h3 h4
  | .enum e, k, W, X, iter, tg, A, h => by
    cases iter <;> first | (simp only [chkIt] at h; cases h; done) | skip
    rename_i fn as kws pos
    cases fn <;> first | (simp only [chkIt] at h; cases h; done) | skip
    rename_i x p
    cases as <;> first | (simp only [chkIt] at h; cases h; done) | skip
    rename_i a as
    cases as <;> first | (simp only [chkIt] at h; cases h; done) | skip
    cases kws <;> first | (simp only [chkIt] at h; cases h; done) | skip
    simp only [chkIt, Bool.and_eq_true] at h
    obtain ⟨⟨⟨⟨h1, h2⟩, h3⟩, h4⟩, h5⟩ := h
    exact gi_enum A h1 (sndE e k W X a A h2) h5 h3 h4
  | .zip a b, k, W, X, iter, tg, A, h => by
    cases iter <;> first | (simp only [chkIt] at h; cases h; done) | skip
    rename_i fn as kws pos
    cases fn <;> first | (simp only [chkIt] at h; cases h; done) | skip
    rename_i x p
    cases as <;> first | (simp only [chkIt] at h; cases h; done) | skip
    rename_i u as
    cases as <;> first | (simp only [chkIt] at h; cases h; done) | skip
    rename_i v as
    cases as <;> first | (simp only [chkIt] at h; cases h; done) | skip
    cases kws <;> first | (simp only [chkIt] at h; cases h; done) | skip
    simp only [chkIt, Bool.and_eq_true] at h
    obtain ⟨⟨⟨⟨⟨⟨⟨h1, h2⟩, h3⟩, h4⟩, h5⟩, h6⟩, h7⟩, h8⟩ := h
    exact gi_zip A h1 (sndE a k W X u A h2) (sndE b k W X v A h3) h7 h8 h4 h5 h6
end
end
end Py
end
section
set_option Elab.async false
set_option linter.all false
set_option maxRecDepth 100000
set_option maxHeartbeats 4000000
/-! Py over HandS: an error without fields is made. -/
namespace Py
open PySem PySem.Spec PyProof.Rows L2
section
variable {X : Cx}
theorem mk_endN {pins : List (Addr × Obj)} {σ : L2.St} {H1 : Hp} {hp hp2 h2 : Heap} {g1 g2 : Array GenState} {d1 d2 : Drawn} {t1 t2 : Nat} {os1 os2 : OsState} {a C : Addr} (I1 : Inv X pins σ H1 ⟨hp, g1, d1, t1, os1⟩)
    (ha : hp.objs.size ≤ a) (k : ∀ b o, hp.get? b = some o → hp2.get? b = some o) (un : Un (frs X.stack) [] (upd H1 a (exo a C none)) (upd H1 a (exo a C none)) hp2 h2) (hok : HOk X.prog X.w (upd H1 a (exo a C none)) h2) (ho : os2 = os1) (hb : AllBare g2) :
    ∃ (t0 : Addr) (G : Heap), Inv X pins σ H1 ⟨G, g2, d2, t2, os2⟩ ∧ (∀ b o, G.get? b = some o → h2.get? b = some o) ∧ G.get? a = none ∧
      h2.get? a = some ({ cls := .ref C, dict := none, data := .fields #[.ref t0, .none, .none, .none, .bool false, .none] } : Obj) ∧ H1 a = none := by
  have ea : upd H1 a (exo a C none) a = some (exo a C none) := upd_same
  obtain ⟨t0, hoe⟩ := exo_at hok ea
  have hn : H1 a = none := I1.hok.fresh ha
  obtain ⟨G, g1', g2'⟩ := restrict h2 fun b => decide (b ≠ a)
  have gk : ∀ b, b ≠ a → G.get? b = h2.get? b := fun b hb => g1' b (decide_eq_true hb)
  have ge : G.get? a = none := g2' a (by simp)
  have nha : ∀ {b : Addr} {o : Obj}, hp.get? b = some o → b ≠ a := fun {b o} z => Nat.ne_of_lt (Nat.lt_of_lt_of_le (Heap.lt_size z) ha)
  have up : ∀ {b : Addr}, b ≠ a → H1 b = none → upd H1 a (exo a C none) b = none := fun {b} hb n => by rw [upd_ne hb]; exact n
  have U : Un (frs X.stack) [] H1 H1 hp G := {
    keep := fun b o z n hf hx => by
      rw [gk b (nha z)]
      exact un.keep b o (k b o z) (up (nha z) n) hf hx
    slot := fun b o z n hf hx => by
      rw [gk b (nha z)]
      exact un.slot b o (k b o z) (up (nha z) n) hf hx
    free := fun b o z n hx => n
    there := fun b o z hx => by
      rw [gk b (nha z)]
      exact un.there b o (k b o z) hx
    tups := fun b xs z => z
    frzs := fun b o v z => z
    tbls := fun b ps z => ⟨#[], by simpa using z⟩ }
  have hok3 : HOk X.prog X.w H1 G := fun b o z => by
    have hba : b ≠ a := fun e => by rw [e, hn] at z; cases z
    have noa : ∀ {c : Addr}, H1 c = some (.own b) → c ≠ a := fun {c} hc e => by rw [e, hn] at hc; cases hc
    exact (hok b o (by rw [upd_ne hba]; exact z)).stay (fun c v hc y => by
        have hca : c ≠ a := by
          rcases hc with hc | hc
          · rw [hc]
            exact hba
          · exact fun e => by
              rw [e, upd_same] at hc
              exact exo_own (Option.some.inj hc)
        rw [gk c hca]
        exact y)
      (fun c hc => by
        have hca : c ≠ a := fun e => by
          rw [e, upd_same] at hc
          exact exo_own (Option.some.inj hc)
        rw [upd_ne hca] at hc; exact hc) (fun c xs hc => by
        have hca : c ≠ a := fun e => by
          rw [e, upd_same] at hc
          exact exo_tup (Option.some.inj hc)
        rw [upd_ne hca] at hc; exact hc)
  have J : Inv X pins σ H1 ⟨G, g2, d2, t2, os2⟩ := I1.call' (ch := []) ho U hok3 hb (fun b z => absurd z (by simp))
  refine ⟨t0, G, J, fun b o z => ?_, ge, hoe, hn⟩
  by_cases hba : b = a
  · rw [hba, ge] at z
    cases z
  · exact (gk b hba).symm.trans z
/-- C(), C's own __init__ leaving the exception as it is -/
theorem pmk_oex0 {x : Str} {C fI : Addr} {k : Nat} {fd : FuncData} {p pos : Pos} (T : OexC X.K C) (iC : PySem.W.findIn X.K (.ref C) "__init__" = some (some (.ref fI))) (tI : PySem.W.typeIn X.K (.ref fI) = some (.type "function"))
    (F1 : FnOk X.prog X.w X.K X.mg X.base (L2.CX X.prog X.w) k fI fd ["self"] (fun vs H Q _ => ∃ a, vs = [.ref a] ∧ H a = some (exo a C none) ∧ Q .non H)) (hr : Room (k + 1) X.A) (hb : L2.Binds X.K fd ["self"] []) (hx : Passes (L2.CX X.prog X.w) X (fun _ _ _ => False)) (hg : Gl X x) (hm : X.mg x = some (.ref C))
    (hdb : (x == ("__debug__" : Str)) = false) :
    PMk X (.Call (.Name x p) [] [] pos) (fun _ H Q => Q (.ref C) none H) := by
  intro pins s σ H Q I h
  obtain ⟨nm, q, N, bs, bm, sn, sub, ab, col, dd, k0, k1, k2, k3, k5, hC, hbm⟩ := T.cls
  refine wpAny_Call_Name_kw (ld_glob I hg hm ?_ hdb)
  refine PySem.W.callWith_K0 I.kIn T.kC ?_
  show wpAny _ _ (call (.ref C) []) _ _ _
  obtain ⟨hp, g, dr, tk, os⟩ := s
  have hsz : hp.objs.size ≤ hp.objs.size + 1 := Nat.le_succ _
  have hn : H (hp.objs.size + 1) = none := I.hok.fresh hsz
  have kk : ∀ b o, hp.get? b = some o → ((hp.push (PySem.W.kdv_tup [])).push (PySem.HandSPX.excO C hp.objs.size)).get? b = some o := fun b o e => Heap.get?_push_of_some _ (Heap.get?_push_of_some _ e)
  have hget : ((hp.push (PySem.W.kdv_tup [])).push (PySem.HandSPX.excO C hp.objs.size)).get? (hp.objs.size + 1) = some (PySem.HandSPX.excO C hp.objs.size) := by heap_get
  have I2 : Inv X pins σ (upd H (hp.objs.size + 1) (exo (hp.objs.size + 1) C none)) ⟨(hp.push (PySem.W.kdv_tup [])).push (PySem.HandSPX.excO C hp.objs.size), g, dr, tk, os⟩ :=
    I.laid (t' := tk) (a := hp.objs.size + 1) (o := exo (hp.objs.size + 1) C none) (h' := (hp.push (PySem.W.kdv_tup [])).push (PySem.HandSPX.excO C hp.objs.size)) kk hsz (exo_ok hget)
  have r2 : Vals [V.ref (hp.objs.size + 1)] [Value.ref (hp.objs.size + 1)] := .cons rfl .nil
  refine wpAny_call (PySem.HandSPX.call_own F.excBase_ValueError (fun Y => PySem.HandSPX.refsVE_contains Y bm hbm) (I.kIn _ _ hC) (PySem.W.looks_findIn I.kIn iC) (fun self => PySem.W.bind_fn I.kIn self tI) (by simp)
    (codeAny_mono (F1.run _ X.stack _ _ ⟨[Value.ref (hp.objs.size + 1)], []⟩ [Value.ref (hp.objs.size + 1)] _ (fun v H2 => v = .non ∧ H2 = upd H (hp.objs.size + 1) (exo (hp.objs.size + 1) C none)) (fun _ _ _ => False) (hr.make C [] []) (I2.env0.make C [] []) (hb _ [Value.ref (hp.objs.size + 1)] I2.kIn rfl) r2 ⟨_, rfl, upd_same, rfl, rfl⟩) fun r s' hq' => ?_))
  cases r with
  | error er => exact hx pins σ _ _ er s' I2 hq'
  | ok fl =>
    cases fl with
    | ret u =>
      obtain ⟨v, H2, os2, bare2, un2, hok2, rv, ev, eH⟩ := hq'
      subst ev
      subst eH
      obtain ⟨h2, g2, d2, t2, os'⟩ := s'
      obtain ⟨t0, G, J, kG, ge, hoe, na⟩ := mk_endN (d2 := d2) (t2 := t2) I hsz kk un2 hok2 os2 bare2
      exact ⟨rv, _, _, _, ⟨G, g2, d2, t2, os'⟩, _, .ref C, none, rfl, J, kG, ge, hoe, ⟨rfl, rfl⟩, rfl, rfl, na, rfl, bare2, raises_own T.exC T.tyC, h⟩
    | next => exact False.elim hq'
    | brk => exact False.elim hq'
    | cont => exact False.elim hq'
end
end Py
end
section
set_option Elab.async false
set_option linter.all false
set_option maxRecDepth 100000
set_option maxHeartbeats 4000000
/-! Py over HandS: statements, one by one. -/
namespace Py
open PySem PySem.Spec PyProof.Rows L2

/-- how the state goes on through statements -/
structure Step (B : Tb) (pr : List Nat) (σ : L2.St) (F H : Hp) (env : Env) (σ' : L2.St) (F' H' : Hp) (env' : Env) : Prop where
  fr : Fr (Ow env σ) F H F' H'
  sr : SR B F' H' σ' env'
  ow : ∀ b, Ow env' σ' b → Ow env σ b ∨ Nz H b
  pr : ∀ i ∈ pr, σ'[i]? = σ[i]?
  len : σ'.length = σ.length
def TellS (B : Tb) (W : WX) (D : Ends) (pr : List Nat) (σ : L2.St) (r : Res Fl) (F H : Hp) (env : Env) : Prop :=
  match r with
  | .ok fl env' => (match fl with
    | .nxt => ∀ σ' F' H', Step B pr σ F H env σ' F' H' env' → D.nx σ' H'
    | .brk => ∀ σ' F' H', Step B pr σ F H env σ' F' H' env' → D.bk σ' H'
    | .cont => ∀ σ' F' H', Step B pr σ F H env σ' F' H' env' → D.ct σ' H'
    | .ret o => ∀ v σ' F' H', Step B pr σ F H env σ' F' H' env' → OutR B F' H' σ' env' v o → (isOwn o = true → ∀ p, v = .ref p → Ow env σ p ∨ Nz H p) → D.rt v H')
  | .exc c ds env' => ∀ σ' F' H' dd, Step B pr σ F H env σ' F' H' env' → ExcR B F' H' c ds dd → W (.ref (B.ca c)) dd σ' H'
  | .stuck => False
/-- a statement's reading -/
def GS (B : Tb) (W : WX) (pr : List Nat) (f : Env → Res Fl) : TS := fun D σ H => ∃ F env, SR B F H σ env ∧ TellS B W D pr σ (f env) F H env
section
variable {B : Tb} {W : WX} {D : Ends} {pr : List Nat} {σ σ1 σ2 : L2.St} {F H F1 H1 F2 H2 : Hp} {env env1 env2 : Env} {r : Res Fl}
theorem Step.refl (S : SR B F H σ env) : Step B pr σ F H env σ F H env := ⟨Fr.refl, S, fun _ h => .inl h, fun _ _ => rfl, rfl⟩
theorem Step.trans (a : Step B pr σ F H env σ1 F1 H1 env1) (b : Step B pr σ1 F1 H1 env1 σ2 F2 H2 env2) : Step B pr σ F H env σ2 F2 H2 env2 := by
  have gone : ∀ p, Nz H1 p → Nz H p := fun p h => a.fr.there p h
  refine ⟨a.fr.trans b.fr a.ow, b.sr, fun p h => ?_, fun i hi => (b.pr i hi).trans (a.pr i hi), b.len.trans a.len⟩
  rcases b.ow p h with h | h
  · exact a.ow p h
  · exact .inr (gone p h)
theorem TellS.from_ (t : TellS B W D pr σ r F H env) (s : Step B pr σ F H env σ1 F1 H1 env1) : TellS B W D pr σ1 r F1 H1 env1 := by
  cases r with
  | stuck => exact t
  | exc c ds e => exact fun σ' F' H' dd st er => t σ' F' H' dd (s.trans st) er
  | ok fl e =>
    cases fl with
    | nxt => exact fun σ' F' H' st => t σ' F' H' (s.trans st)
    | brk => exact fun σ' F' H' st => t σ' F' H' (s.trans st)
    | cont => exact fun σ' F' H' st => t σ' F' H' (s.trans st)
    | ret o =>
      refine fun v σ' F' H' st out np => t v σ' F' H' (s.trans st) out fun ho p hv => ?_
      rcases np ho p hv with z | z
      · exact s.ow p z
      · exact .inr (s.fr.there p z)
/-- an expression's frames as a step -/
theorem Step.of (fr : Fr (Ow env σ) F H F1 H1) (sr : SR B F1 H1 σ env1) (ow : ∀ b, Ow env1 σ b → Ow env σ b) : Step B pr σ F H env σ F1 H1 env1 := ⟨fr, sr, fun b h => .inl (ow b h), fun _ _ => rfl, rfl⟩
/-- a statement begins with an expression -/
theorem tellS_bind {α : Type} {e : Res α} {f : α → Env → Res Fl} (t : TellS B W D pr σ (e.bind f) F H env) : Tell B W σ e F H env (fun a env1 F1 H1 => TellS B W D pr σ (f a env1) F1 H1 env1) := by
  cases e with
  | ok a env1 => exact fun F1 H1 fr sr ow => TellS.from_ (r := f a env1) t (Step.of fr sr ow)
  | exc c ds env1 => exact fun F1 H1 dd fr sr ow er => t σ F1 H1 dd (Step.of fr sr ow) er
  | stuck => exact t
/-- .. whose own value is told -/
theorem tellS_go {g : Env → Res O} {f : O → Env → Res Fl} {Q : V → Hp → Prop} (S : SR B F H σ env) (t : TellS B W D pr σ ((g env).bind f) F H env)
    (q : ∀ o env1 v F1 H1, Step B pr σ F H env σ F1 H1 env1 → OutR B F1 H1 σ env1 v o → (isOwn o = true → ∀ p, v = .ref p → Ow env σ p ∨ Nz H p) → TellS B W D pr σ (f o env1) F H env → Q v H1) : GO B W g σ H Q := by
  refine ⟨F, env, S, ?_⟩
  cases z : g env with
  | stuck => rw [z] at t; exact t
  | exc c ds env1 => rw [z] at t; exact fun F1 H1 dd fr sr ow er => t σ F1 H1 dd (Step.of fr sr ow) er
  | ok o env1 =>
    rw [z] at t
    exact fun v F1 H1 fr sr ow out np => q o env1 v F1 H1 (Step.of fr sr ow) out np t
end

/-- where statements stand -/
structure AtS (B : Tb) (P : Prg) (G : Cfg) (N : List Str) (k : Bk) (W : WX) (X : Cx) : Prop extends At B P G N k W X where
  own : PassesOwn (model X.prog X.w) X.A X.env X.xe
section
variable {B : Tb} {P : Prg} {G : Cfg} {N : List Str} {k : Bk} {W : WX} {X : Cx} {pr : List Nat} {σ : L2.St} {H : Hp} {F : Hp} {env : Env} {D : Ends}
/-- a store of what has come -/
theorem step_store {i : Nat} {v : V} {o : O} (S : SR B F H σ env) (hi : i < env.length ∨ isOwn o = false) (hp : i ∉ pr) (out : OutR B F H σ env v o) {F0 H0 : Hp} {σ0 : L2.St} {env0 : Env} (s : Step B pr σ0 F0 H0 env0 σ F H env) (np : isOwn o = true → ∀ p, v = .ref p → Ow env0 σ0 p ∨ Nz H0 p) :
    Step B pr σ0 F0 H0 env0 (σ.set i (some v)) F H (setS env i o) := by
  have sp : ∀ j ∈ pr, (σ.set i (some v))[j]? = σ0[j]? := fun j hj => by
    rw [List.getElem?_set_ne (fun e => hp (by rw [e]; exact hj))]
    exact s.pr j hj
  by_cases hlt : i < env.length
  · refine ⟨s.fr, sr_store S hlt (out_less out fun b z => ow_drop rfl z), fun b ⟨j, h1, h2⟩ => ?_, sp, by rw [List.length_set]; exact s.len⟩
    rw [getS_set] at h1
    by_cases e : i = j
    · subst e
      rw [if_pos ⟨rfl, hlt⟩] at h1
      rw [List.getElem?_set_self (by have := S.len; omega)] at h2
      cases h2
      exact np h1 b rfl
    · rw [if_neg (fun z => e z.1)] at h1
      rw [List.getElem?_set_ne e] at h2
      exact s.ow b ⟨j, h1, h2⟩
  · have e1 : setS env i o = env := getS_set_out (by omega)
    have e2 : σ.set i (some v) = σ := List.set_eq_of_length_le (by have := S.len; omega)
    rw [e1, e2]
    exact s
end
end Py
end
section
set_option Elab.async false
set_option linter.all false
set_option maxRecDepth 100000
set_option maxHeartbeats 4000000
/-! Py over HandS: the checker of statements; stores. -/
namespace Py
open PySem PySem.Spec PyProof.Rows L2

/-- name = [..], the comprehension's own frame reused -/
def swB (k : Bk) (x : Str) (p : Pos) : Expr → Bool
  | .ListComp _ _ scope pos => k.sc.names.lookup x == some .local && p.line == pos.line && !(scope.names.any fun (n, k) => n == x && (k == .local || k == .cell))
  | .SetComp _ _ _ _ => true
  | .DictComp _ _ _ _ _ => true
  | _ => false
def isLc : E → Bool
  | .lc _ _ _ _ _ => true
  | _ => false
def isNameE : Expr → Bool
  | .Name _ _ => true
  | _ => false
def isBoundA (m : Str) : Expr → Bool
  | .Attribute _ f _ => f == m
  | _ => false
mutual
def chkS (P : Prg) (N : List Str) (k : Bk) (pr : List Nat) : S → Stmt → Bool
  | .asg i e, .Assign [.Name x p] v _ => storeB N k i (.Name x p) && !pr.contains i && chkE P N k e v && noBor e && (isLc e || !swB k x p v)
  | .asgO i e, .Assign [.Name x p] v _ => storeB N k i (.Name x p) && !pr.contains i && chkE P N k e v && noBor e && (isLc e || !swB k x p v)
  | .unp t e, .Assign [.Tuple ts c p] v _ => chkTg N k t (.Tuple ts c p) && (tgSlots t).all (fun i => !pr.contains i) && chkE P N k e v && noBor e && !isTupE v
  | .set i x e, .Assign [.Subscript o y _] v _ => nameB N k.sc i o && chkE P N k x y && noBor x && chkE P N k e v && noBor e && !isSlice y
  | .app i e, .Expr (.Call (.Attribute o m apos) [a] [] cpos) _ => nameB N k.sc i o && m == ("append" : Str) && chkE P N k e a && noBor e && noStar a && apos.endLine == cpos.line
  | .ex e, .Expr v _ => chkE P N k e v && noBor e && !isComp v
  | .ret e, .Return (some v) _ => chkE P N k e v && noBor e
  | .retO e, .Return (some v) _ => chkE P N k e v && noBor e
  | .retM i, .Return (some v) _ => nameB N k.sc i v
  | .retN, .Return none _ => true
  | .ite c a b, .If t x y _ => chkE P N k c t && tOk c && chkSs P N k pr a x && chkSs P N k pr b y
  | .for t it b, .For tg iter body [] _ => chkTg N k t tg && (tgSlots t).all (fun i => !pr.contains i) && chkIt P N k it iter tg && chkSs P N k pr b body && noSet iter
  | .whl _ c b, .While t body [] _ => chkE P N k c t && tOk c && chkSs P N k pr b body
  | .aug i o e, .AugAssign (.Name x p) op v _ => storeB N k i (.Name x p) && !pr.contains i && chkE P N k e v && noBor e && (match o, op with
    | .add, .Add => true
    | .sub, .Sub => true
    | _, _ => false)
  | .rse c .nil, .Raise (some (.Call (.Name x _) [] [] _)) none _ => isGl k.sc x (P.en c) && decide (c < P.ne)
  | .pass, .Pass _ => true
  | .pass, .Expr (.Constant (.str _) _ _) _ => true
  | .brk, .Break _ => true
  | .cont, .Continue _ => true
  | _, _ => false
def chkSs (P : Prg) (N : List Str) (k : Bk) (pr : List Nat) : Ss → List Stmt → Bool
  | .nil, [] => true
  | .cons s ss, x :: xs => chkS P N k pr s x && chkSs P N k pr ss xs
  | _, _ => false
end

section
variable {B : Tb} {P : Prg} {G : Cfg} {N : List Str} {k : Bk} {W : WX} {X : Cx} {pr : List Nat}
/-! ### own values -/
theorem go_of {e : E} {ast : Expr} (h : PE X ast (GE B W (evalE G e))) (he : ∀ env, evalO G e env = (evalE G e env).bind fun d env => .ok (.v d) env) : PE X ast (GO B W (evalO G e)) := by
  refine PE.mono h fun σ H Q ⟨F, env, S, t⟩ => ⟨F, env, S, ?_⟩
  rw [he] at t
  cases z : evalE G e env with
  | stuck => rw [z] at t; exact t
  | exc c ds env1 => rw [z] at t; exact t
  | ok d env1 =>
    rw [z] at t
    exact fun F1 H1 fr sr ow v rv => t v F1 H1 fr sr ow (out_v rv) (fun z => nomatch z)
theorem go_new {σ : L2.St} {F H : Hp} {env : Env} {p : Addr} {o : HO} (S : SR B F H σ env) (hp : H p = none) (ho : ∀ ps, o ≠ .tbl ps) : Fr (Ow env σ) F H F (upd H p o) ∧ SR B F (upd H p o) σ env ∧ F p = none ∧ ¬ Ow env σ p := by
  have fp : F p = none := by
    cases e : F p with
    | none => rfl
    | some u => rw [S.ext p u e] at hp; cases hp
  have hx : Ex F (upd H p o) := S.ext.trans (Ex.new hp)
  have f : Fr (fun _ => False) F H F (upd H p o) := ⟨Ex.refl F, fun b h n => absurd h n, fun b u h _ _ => (Ex.new hp) b u h, fun b h => nz_new hp h⟩
  exact ⟨f.mono fun _ z => z.elim, S.keep f hx (S.tab.ext (Ex.new hp)) S.notab, fp, fun z => (S.free z).2 (nz_none hp)⟩
theorem snd_own (A : At B P G N k W X) {e : E} {ast : Expr} (h : chkE P N k e ast = true) (hb : noBor e = true) : PE X ast (GO B W (evalO G e)) := by
  cases e with
  | lst es =>
    cases ast <;> first | (simp only [chkE] at h; cases h; done) | skip
    rename_i xs pos
    simp only [chkE] at h
    obtain ⟨h1, h2⟩ := sndEs es k W X xs A h
    refine PE.mono (pe_lst (pas h1 h2)) fun σ H Q ⟨F, env, S, t⟩ => ?_
    rw [evalO] at t
    refine nest_of es F H env _ S ?_
    cases z : evalEs G es env with
    | stuck => rw [z] at t; exact t
    | exc c ds env1 => rw [z] at t; exact t
    | ok ds env1 =>
      rw [z] at t
      intro F1 H1 fr sr ow vs hvs
      simp only [Res.bind] at t
      by_cases hc : ds.length ≤ line ∧ bors es = []
      · rw [if_pos hc] at t
        have rl := args_rep hc.2 hvs
        refine ⟨by rw [rl.length, lineEq]; exact hc.1, fun p hp => ?_⟩
        obtain ⟨f2, s2, fp, no⟩ := go_new (o := .lst vs) sr hp fun ps z => nomatch z
        have hn : Nz H p := fr.there p (nz_none hp)
        exact t (.ref p) F1 _ (fr.trans f2 fun b z => .inl (ow b z)) s2 ow ⟨⟨p, vs, rfl, fp, upd_same, rl⟩, (fun z => nomatch z), fun _ q hq => by cases hq; exact no⟩ fun _ q hq => by cases hq; exact .inr hn
      · rw [if_neg hc] at t
        exact t.elim
  | dnew =>
    cases ast <;> first | (simp only [chkE] at h; cases h; done) | skip
    rename_i ks vs pos
    cases ks <;> first | (simp only [chkE] at h; cases h; done) | skip
    cases vs <;> first | (simp only [chkE] at h; cases h; done) | skip
    refine PE.mono pe_dnewK fun σ H Q ⟨F, env, S, t⟩ p hp => ?_
    rw [evalO] at t
    obtain ⟨f2, s2, fp, no⟩ := go_new (o := .dK []) S hp fun ps z => nomatch z
    exact t (.ref p) F _ f2 s2 (fun _ z => z) ⟨⟨p, [], rfl, fp, upd_same, rfl, .nil⟩, (fun z => nomatch z), fun _ q hq => by cases hq; exact no⟩ fun _ q hq => by cases hq; exact .inr (nz_none hp)
  | call f es =>
    cases ast <;> first | (simp only [chkE] at h; cases h; done) | skip
    rename_i fn as kws pos
    cases fn <;> first | (simp only [chkE] at h; cases h; done) | skip
    cases kws <;> first | (simp only [chkE] at h; cases h; done) | skip
    rename_i x p
    simp only [chkE, Bool.and_eq_true, decide_eq_true_eq, Bool.not_eq_true'] at h
    obtain ⟨⟨⟨h1, h2⟩, h3⟩, h4⟩ := h
    obtain ⟨q1, q2⟩ := sndEs es k W X as A h3
    refine PE.mono (call_pe A h2 h1 h4 q1 q2) fun σ H Q ⟨F, env, S, t⟩ => ?_
    rw [evalO] at t
    refine nest_of es F H env _ S ?_
    cases z : evalEs G es env with
    | stuck => rw [z] at t; exact t
    | exc c ds env1 => rw [z] at t; exact t
    | ok ds env1 =>
      rw [z] at t
      intro F1 H1 fr sr ow vs hvs
      refine call_sp sr hvs ?_
      cases y : callR G f es (.ok ds env1) with
      | stuck => rw [y] at t; exact t
      | exc c xs env2 =>
        rw [y] at t
        exact fun F2 H2 dd fr2 sr2 ow2 er => t F2 H2 dd (fr.trans fr2 fun b z => .inl (ow b z)) sr2 (fun b z => ow b (ow2 b z)) er
      | ok o env2 =>
        rw [y] at t
        refine fun v F2 H2 fr2 sr2 ow2 out np => t v F2 H2 (fr.trans fr2 fun b z => .inl (ow b z)) sr2 (fun b z => ow b (ow2 b z)) out fun ho q hq => ?_
        rcases np ho q hq with w | w
        · exact .inl (ow q w)
        · exact .inr (fr.there q w)
  | lc tg own it cs e =>
    cases ast <;> first | (simp only [chkE] at h; cases h; done) | skip
    rename_i elt gs scope pos
    obtain ⟨t, iter, ifs, rfl, hl⟩ : ∃ t iter ifs, gs = [⟨t, iter, ifs, 0⟩] ∧ lcChk P N k tg own it cs e elt t iter ifs scope = true := by
      unfold chkE at h
      split at h <;> first | contradiction | skip
      rename_i heq1 heq2
      cases heq1
      cases heq2
      exact ⟨_, _, _, rfl, h⟩
    unfold lcChk at hl
    simp only [Bool.and_eq_true] at hl
    obtain ⟨⟨⟨⟨⟨⟨⟨⟨h1, h2⟩, h3⟩, h4⟩, h5⟩, h6⟩, h7⟩, h8⟩, h9⟩ := hl
    have hsub : ∀ i ∈ tgSlots tg, i ∈ own := fun i hi => by simpa using (List.all_eq_true.mp h4) i hi
    exact PE.mono (lc_pe A h1 (sndIt it k W X iter t A h2) h3 (fun X' A' => sndTs cs (blkB k scope) X' ifs A' h5 h8) (fun X' A' => sndE e (blkB k scope) _ X' elt A' h6) h7 h9) fun σ H Q q => lc_go hsub q
  | bor i => cases hb
  | _ => exact go_of ((sndE _ k W X ast A h).ge hb) fun env => rfl

/-! ### name = value -/
theorem sw_comp (elt : Expr) (gs : List Comprehension) (scope : Scope) (pos py : Pos) (y : Str) (l : Nat) (env : PySem.Env) :
    swapsWith (.ListComp elt gs scope pos) (some (.Name y py)) l env = pure (env.blockKind == .function && env.kindOf y == some .local && py.line == pos.line && !(scope.names.any fun (n, k) => n == y && (k == .local || k == .cell))) := rfl
theorem sw_no (A : At B P G N k W X) {v : Expr} {x : Str} {p : Pos} (h : swB k x p v = false) (l : Nat) : swapsWith v (some (.Name x p)) l X.env = pure false := by
  cases hc : isComp v with
  | false => exact swap_of hc _ _ _
  | true =>
    cases v <;> first | (cases hc; done) | (cases h; done) | skip
    rename_i elt gs scope pos
    rw [sw_comp]
    have e : X.env.kindOf x = k.sc.names.lookup x := by show X.env.scope.names.lookup x = _; rw [A.hs]
    have h : (k.sc.names.lookup x == some .local && p.line == pos.line && !(scope.names.any fun (n, k) => n == x && (k == .local || k == .cell))) = false := h
    rw [e, Bool.and_assoc, Bool.and_assoc, ← Bool.and_assoc (k.sc.names.lookup x == some .local), h, Bool.and_false]
/-- a comprehension's own checks -/
theorem lc_of {tg : Tg} {own : List Nat} {it : It} {cs : Es} {e : E} {ast : Expr} (h : chkE P N k (.lc tg own it cs e) ast = true) : ∃ elt t iter ifs scope pos, ast = .ListComp elt [⟨t, iter, ifs, 0⟩] scope pos ∧ lcChk P N k tg own it cs e elt t iter ifs scope = true := by
  cases ast <;> first | (simp only [chkE] at h; cases h; done) | skip
  rename_i elt gs scope pos
  unfold chkE at h
  split at h <;> first | contradiction | skip
  rename_i heq1 heq2
  cases heq1
  cases heq2
  exact ⟨_, _, _, _, _, _, rfl, h⟩
/-- name = value, as the value's reading has it -/
theorem asg_ps (A : At B P G N k W X) {i : Nat} {e : E} {x : Str} {p pos : Pos} {v : Expr} (hs : storeB N k i (.Name x p) = true) (he : chkE P N k e v = true) (hb : noBor e = true) (hw : isLc e = true ∨ swB k x p v = false) :
    PS X (.Assign [.Name x p] v pos) (tAsg (GE B W (evalE G e)) (gName i)) ∧ PS X (.Assign [.Name x p] v pos) (tAsg (GO B W (evalO G e)) (gName i)) := by
  obtain ⟨x', p', e1, h1, h2, h3⟩ := storeB_of A hs
  cases e1
  by_cases hsw : swB k x p v = true
  · have hlc : isLc e = true := hw.resolve_right (by rw [hsw]; simp)
    cases e <;> first | (cases hlc; done) | skip
    rename_i tg own it cs e
    obtain ⟨elt, t, iter, ifs, scope, pos', rfl, hl⟩ := lc_of he
    unfold lcChk at hl
    simp only [Bool.and_eq_true] at hl
    obtain ⟨⟨⟨⟨⟨⟨⟨⟨g1, g2⟩, g3⟩, g4⟩, g5⟩, g6⟩, g7⟩, g8⟩, g9⟩ := hl
    have hsub : ∀ i ∈ tgSlots tg, i ∈ own := fun i hi => by simpa using (List.all_eq_true.mp g4) i hi
    have hsw : (k.sc.names.lookup x == some .local && p.line == pos'.line && !(scope.names.any fun (n, k) => n == x && (k == .local || k == .cell))) = true := hsw
    have kk : X.env.kindOf x = k.sc.names.lookup x := by show X.env.scope.names.lookup x = _; rw [A.hs]
    have hloc : X.env.scope.names.lookup x = some .local := by
      simp only [Bool.and_eq_true, beq_iff_eq] at hsw
      rw [A.hs]; exact hsw.1.1
    by_cases hkind : X.env.scope.kind = .function
    · have sw : swapsWith (.ListComp elt [⟨t, iter, ifs, 0⟩] scope pos') (some (.Name x p)) pos.line X.env = pure true := by
        rw [sw_comp, kk]
        have hb : (X.env.blockKind == .function) = true := by unfold Env.blockKind; rw [hkind]; rfl
        rw [Bool.and_assoc, Bool.and_assoc, ← Bool.and_assoc (k.sc.names.lookup x == some .local), hsw, hb]
        rfl
      have key := ps_setLc (pos := pos') (spos := pos) (py := p) A.S.O.calm A.S.O.nd h1 hloc sw (sndIt it k W X iter t A g2) (blkOk_by (by rw [A.hN, A.hs]; exact g1)) (fun s H C cl fp => pg_ok (A.blk s H scope C cl fp) tg t g3) (fun s H C cl fp => sndTs cs (blkB k scope) _ ifs (A.blk s H scope C cl fp) g5 g8) (fun s H C cl fp => (sndE e (blkB k scope) _ _ elt (A.blk s H scope C cl fp) g6).ge g7) (fold_of g9 X.env)
      rw [own_snd] at key
      exact ⟨PS.mono key fun D σ H q => lc_ge hsub q, PS.mono key fun D σ H q => lc_go hsub q⟩
    · refine ⟨⟨fun pins s σ H D I _ => absurd I.ok.kind hkind⟩, ⟨fun pins s σ H D I _ => absurd I.ok.kind hkind⟩⟩
  · have hsw : swB k x p v = false := by simpa using hsw
    exact ⟨ps_set A.S.O.nd h1 h2 ((sndE e k W X v A he).ge hb) (sw_no A hsw _) h3, ps_set A.S.O.nd h1 h2 (snd_own A he hb) (sw_no A hsw _) h3⟩
theorem s_asg (A : At B P G N k W X) {i : Nat} {e : E} {x : Str} {p pos : Pos} {v : Expr} (hs : storeB N k i (.Name x p) = true) (hp : pr.contains i = false) (he : chkE P N k e v = true) (hb : noBor e = true) (hw : isLc e = true ∨ swB k x p v = false) :
    PS X (.Assign [.Name x p] v pos) (GS B W pr (exec G (.asg i e))) := by
  refine PS.mono (asg_ps A hs he hb hw).1 fun D σ H ⟨F, env, S, t⟩ => ?_
  rw [exec] at t
  refine ⟨F, env, S, (tellS_bind t).mono fun d env1 F1 H1 fr sr ow t1 v rv => ?_⟩
  have st : Step B pr σ F1 H1 env1 σ F1 H1 env1 := Step.refl sr
  exact t1 _ F1 H1 (step_store sr (.inr rfl) (by simpa using hp) (out_v rv) st (fun z => nomatch z))
theorem s_asgO (A : At B P G N k W X) {i : Nat} {e : E} {x : Str} {p pos : Pos} {v : Expr} (hs : storeB N k i (.Name x p) = true) (hp : pr.contains i = false) (he : chkE P N k e v = true) (hb : noBor e = true) (hw : isLc e = true ∨ swB k x p v = false) :
    PS X (.Assign [.Name x p] v pos) (GS B W pr (exec G (.asgO i e))) := by
  refine ⟨fun pins s σ H D I h => ?_⟩
  refine (asg_ps A hs he hb hw).2.run pins s σ H D I ?_
  obtain ⟨F, env, S, t⟩ := h
  rw [exec] at t
  refine tellS_go S t fun o env1 v F1 H1 st out np t1 => ?_
  obtain ⟨x', p', e1, h1, h2, h3⟩ := storeB_of A hs
  have hlt : i < env1.length := by
    rw [st.sr.len, I.len]
    exact (List.getElem?_eq_some_iff.mp h1).1
  exact t1 _ F1 H1 (step_store st.sr (.inl hlt) (by simpa using hp) out st np)
end
end Py
end
section
set_option Elab.async false
set_option linter.all false
set_option maxRecDepth 100000
set_option maxHeartbeats 4000000
/-! Py over HandS: all statements. -/
namespace Py
open PySem PySem.Spec PyProof.Rows L2
section
variable {B : Tb} {P : Prg} {G : Cfg} {N : List Str} {k : Bk} {W : WX} {X : Cx} {pr : List Nat}
theorem sr_mod {F H : Hp} {σ : L2.St} {env : Env} {i : Nat} {p : Addr} {vs ws : List V} {o' : O} (S : SR B F H σ env) (ho : isOwn (getS env i) = true) (hp : σ[i]? = some (some (.ref p))) (hH : H p = some (.lst vs)) (hF : F p = none)
    (h' : SlotR B F (upd H p (.lst ws)) σ[i]? o') (ho' : isOwn o' = true) : SR B F (upd H p (.lst ws)) σ (setS env i o') ∧ Fr (Ow env σ) F H F (upd H p (.lst ws)) ∧ ∀ b, Ow (setS env i o') σ b → Ow env σ b := by
  have hx : Ex F (upd H p (.lst ws)) := fun b o e => by
    rw [upd_ne (fun z => by rw [z, hF] at e; cases e)]
    exact S.ext b o e
  have there : ∀ b, Nz (upd H p (.lst ws)) b → Nz H b := fun b e => nz_mod (fun _ (z : HO.lst ws = .tbl _) => HO.noConfusion z) e
  have own : ∀ j, isOwn (getS (setS env i o') j) = true → isOwn (getS env j) = true := fun j h => by
    rw [getS_set] at h
    split at h
    · rename_i e; rw [← e.1]; exact ho
    · exact h
  refine ⟨⟨hx, tabs_upd S.tab hH, S.notab, by rw [setS_length]; exact S.len, fun j => ?_, fun a b q h1 h2 h3 h4 => S.apart a b q (own a h1) (own b h2) h3 h4⟩,
    ⟨Ex.refl F, fun b h1 h2 => absurd h1 h2, fun b o h hA _ => by rw [upd_ne (fun z => hA (by rw [z]; exact ⟨i, ho, hp⟩))]; exact h, there⟩, fun b ⟨j, h1, h2⟩ => ⟨j, own j h1, h2⟩⟩
  rw [getS_set]
  split
  · rename_i e
    rw [← e.1]
    exact h'
  · rename_i e
    refine SlotR.keep (A := fun b => b = p) ⟨Ex.refl F, fun b h1 h2 => absurd h1 h2, fun b o h hA _ => by rw [upd_ne hA]; exact h, there⟩ hx (S.slot j) fun hj q hq z => ?_
    subst z
    have := S.apart i j _ ho hj hp hq
    exact e ⟨this, S.lt rfl (fun z => by rw [z] at ho; cases ho)⟩
theorem s_unp (A : At B P G N k W X) {t : Tg} {e : E} {ts : List Expr} {c : Nat} {p pos : Pos} {v : Expr} (ht : chkTg N k t (.Tuple ts c p) = true) (hp : (tgSlots t).all (fun i => !pr.contains i) = true) (he : chkE P N k e v = true) (hb : noBor e = true) (hv : isTupE v = false) :
    PS X (.Assign [.Tuple ts c p] v pos) (GS B W pr (exec G (.unp t e))) := by
  refine PS.mono (ps_asg ((sndE e k W X v A he).ge hb) (pg_ok A t _ ht) (by cases v <;> rfl) (by cases v <;> first | rfl | cases hv)) fun D σ H ⟨F, env, S, tl⟩ => ?_
  rw [exec] at tl
  refine ⟨F, env, S, (tellS_bind tl).mono fun d env1 F1 H1 fr sr ow t1 v rv => ?_⟩
  cases z : put t d env1 with
  | none => rw [z] at t1; exact t1.elim
  | some env2 =>
    rw [z] at t1
    refine ⟨F1, env1, d, env2, sr, rv, z, fun σ' s' hj ho => t1 σ' F1 H1 ⟨Fr.refl, s', fun b h => .inl (ho b h), fun i hi => hj i fun hm => ?_, ?_⟩⟩
    · have := (List.all_eq_true.mp hp) i hm
      simp at this
      exact this hi
    · rw [← s'.len, put_length z, sr.len]
theorem s_set (A : At B P G N k W X) {i : Nat} {x e : E} {o y v : Expr} {p pos : Pos} (ho : nameB N k.sc i o = true) (hx : chkE P N k x y = true) (hbx : noBor x = true) (he : chkE P N k e v = true) (hb : noBor e = true) (hsl : isSlice y = false) :
    PS X (.Assign [.Subscript o y p] v pos) (GS B W pr (exec G (.set i x e))) := by
  refine PS.mono (ps_asg ((sndE e k W X v A he).ge hb) (pg_sub (name_pe A ho).1 ((sndE x k W X y A hx).ge hbx) set_list (by intro _; cases y <;> first | rfl | cases hsl)) (by cases v <;> rfl)) fun D σ H ⟨F, env, S, t⟩ => ?_
  rw [exec] at t
  refine ⟨F, env, S, (tellS_bind t).mono fun d env1 F1 H1 fr sr ow t1 v rv => ?_⟩
  cases hg : getS env1 i with
  | fl ds0 =>
    rw [hg] at t1
    have sl := sr.slot i
    rw [hg] at sl
    obtain ⟨p, vs0, hσ, hF0, hH0, r0⟩ := sl
    refine ⟨.ref p, hσ, F1, env1, sr, (tellS_bind t1).mono fun xd env2 F2 H2 f2 s2 o2 t2 u ru => ?_⟩
    cases hs : setO (getS env2 i) xd d with
    | none => rw [hs] at t2; exact t2.elim
    | some o' =>
      rw [hs] at t2
      cases hg2 : getS env2 i with
      | fl ds =>
        rw [hg2] at hs
        cases xd with
        | int n =>
          simp only [setO] at hs
          split at hs
          · rename_i hn
            cases hs
            cases ru
            have sl2 := s2.slot i
            rw [hg2] at sl2
            obtain ⟨p', vs, hσ', hF, hH, rl⟩ := sl2
            rw [hσ] at hσ'
            cases hσ'
            have hlt : n < (vs.length : Int) := by rw [rl.length]; exact hn.2
            obtain ⟨q1, q2, q3⟩ := sr_mod (ws := vs.set n.toNat v) (o' := .fl (ds.set n.toNat d)) s2 (by rw [hg2]; rfl) hσ hH hF ⟨p, _, hσ, hF, upd_same, rl.set _ (rv.ex f2.ext)⟩ rfl
            refine ⟨p, vs, n, n.toNat, rfl, rfl, hH, ?_, t2 σ F2 _ ⟨q2, q1, fun b h => .inl (q3 b h), fun _ _ => rfl, rfl⟩⟩
            unfold ixN
            first
              | (rw [if_pos hn.1, if_pos hlt]; done)
              | (simp [hn.1, hlt]; done)
              | skip
          · cases hs
        | _ => cases hs
      | _ => rw [hg2] at hs; cases hs
  | _ => rw [hg] at t1; exact t1.elim
theorem s_app (A : At B P G N k W X) {i : Nat} {e : E} {o a : Expr} {m : Str} {apos cpos pos : Pos} (ho : nameB N k.sc i o = true) (hm : m = "append") (he : chkE P N k e a = true) (hb : noBor e = true) (hn : noStar a = true) (hl : (apos.endLine == cpos.line) = true) :
    PS X (.Expr (.Call (.Attribute o m apos) [a] [] cpos) pos) (GS B W pr (exec G (.app i e))) := by
  subst hm
  have hbase : attributeBase o "append" X.env (eval o X.env) = eval o X.env := by
    cases o <;> first | rfl | (simp [nameB] at ho; done)
  have key := pe_bm (cpos := cpos) (apos := apos) F.plainAttrs_list F.slot_list_append F.type_list_append (show MtR X "list.append" rAppend from mt_append) (name_pe A ho).1 (pas (.cons ((sndE e k W X a A he).ge hb) (ge_mono _) .nil) (by simp [hn])) hbase (by rw [star1 hn]; rfl) hl (star1 hn _ _) rfl
  refine PS.mono (ps_expr key (by rfl)) fun D σ H ⟨F, env, S, t⟩ => ?_
  rw [exec] at t
  cases hg : getS env i with
  | fl ds0 =>
    rw [hg] at t
    have sl := S.slot i
    rw [hg] at sl
    obtain ⟨p, vs0, hσ, hF0, hH0, r0⟩ := sl
    refine ⟨.ref p, hσ, .inl ⟨rfl, vs0, .inl (.inl hH0)⟩, F, env, S, (tellS_bind t).mono fun d env2 F2 H2 f2 s2 o2 t2 u ru => ?_⟩
    cases hs : appO (getS env2 i) d with
    | none => rw [hs] at t2; exact t2.elim
    | some o' =>
      rw [hs] at t2
      cases hg2 : getS env2 i with
      | fl ds =>
        rw [hg2] at hs
        simp only [appO] at hs
        split at hs
        · rename_i hn
          cases hs
          have sl2 := s2.slot i
          rw [hg2] at sl2
          obtain ⟨p', vs, hσ', hF, hH, rl⟩ := sl2
          rw [hσ] at hσ'
          cases hσ'
          obtain ⟨q1, q2, q3⟩ := sr_mod (ws := vs ++ [u]) (o' := .fl (ds ++ [d])) s2 (by rw [hg2]; rfl) hσ hH hF ⟨p, _, hσ, hF, upd_same, rl.append (.cons ru .nil)⟩ rfl
          exact ⟨p, vs, u, rfl, rfl, hH, by rw [rl.length, lineEq]; exact hn, t2 σ F2 _ ⟨q2, q1, fun b h => .inl (q3 b h), fun _ _ => rfl, rfl⟩⟩
        · cases hs
      | _ => rw [hg2] at hs; cases hs
  | _ => rw [hg] at t; exact t.elim
theorem s_ex (A : At B P G N k W X) {e : E} {v : Expr} {pos : Pos} (he : chkE P N k e v = true) (hb : noBor e = true) (hc : isComp v = false) : PS X (.Expr v pos) (GS B W pr (exec G (.ex e))) := by
  refine PS.mono (ps_expr ((sndE e k W X v A he).ge hb) (swap_of hc _ _ _)) fun D σ H ⟨F, env, S, t⟩ => ?_
  rw [exec] at t
  exact ⟨F, env, S, (tellS_bind t).mono fun d env1 F1 H1 fr sr ow t1 v rv => t1 σ F1 H1 (Step.refl sr)⟩
theorem s_ret (A : At B P G N k W X) {e : E} {v : Expr} {pos : Pos} (he : chkE P N k e v = true) (hb : noBor e = true) : PS X (.Return (some v) pos) (GS B W pr (exec G (.ret e))) := by
  refine PS.mono (ps_ret ((sndE e k W X v A he).ge hb)) fun D σ H ⟨F, env, S, t⟩ => ?_
  rw [exec] at t
  exact ⟨F, env, S, (tellS_bind t).mono fun d env1 F1 H1 fr sr ow t1 v rv => t1 v σ F1 H1 (Step.refl sr) (out_v rv) (fun z => nomatch z)⟩
theorem s_retO (A : At B P G N k W X) {e : E} {v : Expr} {pos : Pos} (he : chkE P N k e v = true) (hb : noBor e = true) : PS X (.Return (some v) pos) (GS B W pr (exec G (.retO e))) := by
  refine PS.mono (ps_ret (snd_own A he hb)) fun D σ H ⟨F, env, S, t⟩ => ?_
  rw [exec] at t
  exact tellS_go S t fun o env1 v F1 H1 st out np t1 => t1 v σ F1 H1 st out np
theorem s_retM (A : At B P G N k W X) {i : Nat} {v : Expr} {pos : Pos} (h : nameB N k.sc i v = true) : PS X (.Return (some v) pos) (GS B W pr (exec G (.retM i))) := by
  refine PS.mono (ps_ret (name_pe A h).1) fun D σ H ⟨F, env, S, t⟩ => ?_
  rw [exec] at t
  by_cases hu : getS env i = .un
  · rw [hu] at t; exact t.elim
  · obtain ⟨v, hv⟩ := S.there hu
    refine ⟨v, hv, ?_⟩
    have t2 : TellS B W D pr σ (.ok (.ret (getS env i)) (setS env i .un)) F H env := by
      cases z : getS env i <;> rw [z] at t <;> first | exact absurd z hu | exact t
    exact t2 v σ F H ⟨Fr.refl, sr_drop S i, fun b h => .inl (ow_drop rfl h), fun _ _ => rfl, rfl⟩ (out_slot S hv hu) fun ho p hp => .inl ⟨i, ho, by rw [hv, hp]⟩
theorem s_retN {pos : Pos} : PS X (.Return none pos) (GS B W pr (exec G .retN)) := by
  refine PS.mono ps_retN fun D σ H ⟨F, env, S, t⟩ => ?_
  rw [exec] at t
  exact t .non σ F H (Step.refl S) (out_v .non) (fun z => nomatch z)
theorem s_ite (A : At B P G N k W X) {c : E} {a b : Ss} {t : Expr} {x y : List Stmt} {pos : Pos} (hc : chkE P N k c t = true) (ht : tOk c = true) (ha : PSs X x (GS B W pr (execs G a))) (hb : PSs X y (GS B W pr (execs G b))) :
    PS X (.If t x y pos) (GS B W pr (exec G (.ite c a b))) := by
  refine PS.mono (ps_if ((sndE c k W X t A hc).pt ht) ha hb) fun D σ H ⟨F, env, S, t⟩ => ?_
  rw [exec] at t
  refine ⟨F, env, S, (tellS_bind t).mono fun d env1 F1 H1 fr sr ow t1 => ?_⟩
  cases d with
  | bl q =>
    refine ⟨q, rfl, ?_⟩
    cases q with
    | true => exact ⟨F1, env1, sr, t1⟩
    | false => exact ⟨F1, env1, sr, t1⟩
  | _ => exact t1.elim
theorem loop_body {D : Ends} {σ : L2.St} {F H : Hp} {env : Env} {r : Res Fl} {next : Env → Res Fl} {Nn : L2.St → Hp → Prop} (t : TellS B W D pr σ (r.bind (again next)) F H env)
    (hN : ∀ σ' F' H' env', Step B pr σ F H env σ' F' H' env' → TellS B W D pr σ' (next env') F' H' env' → Nn σ' H') : TellS B W { D with nx := Nn, ct := Nn, bk := D.nx } pr σ r F H env := by
  cases r with
  | stuck => exact t
  | exc c ds e => exact t
  | ok f e =>
    cases f with
    | nxt => exact fun σ' F' H' st => hN σ' F' H' e st (TellS.from_ (r := next e) t st)
    | cont => exact fun σ' F' H' st => hN σ' F' H' e st (TellS.from_ (r := next e) t st)
    | brk => exact t
    | ret o => exact t
theorem s_whl (A : AtS B P G N k W X) {n : Nat} {c : E} {b : Ss} {t : Expr} {x : List Stmt} {pos : Pos} (hc : chkE P N k c t = true) (ht : tOk c = true) (hb : PSs X x (GS B W pr (execs G b))) :
    PS X (.While t x [] pos) (GS B W pr (exec G (.whl n c b))) := by
  refine PS.mono (ps_while A.own ((sndE c k W X t A.toAt hc).pt ht) hb) fun D σ H ⟨F, env, S, t⟩ => ?_
  rw [exec] at t
  refine ⟨fun m σ' H' => ∃ F' env', SR B F' H' σ' env' ∧ TellS B W D pr σ' (whileN (evalE G c) (execs G b) m env') F' H' env', ⟨n, F, env, S, t⟩, fun m σ' H' ⟨F', env', S', t'⟩ => ?_⟩
  cases m with
  | zero => rw [whileN] at t'; exact t'.elim
  | succ m =>
    rw [whileN] at t'
    refine ⟨F', env', S', (tellS_bind t').mono fun d env1 F1 H1 fr sr ow t1 => ?_⟩
    cases d with
    | bl q =>
      refine ⟨q, rfl, ?_⟩
      cases q with
      | true =>
        refine ⟨fun σ2 H2 => ∃ F2 env2, SR B F2 H2 σ2 env2 ∧ TellS B W D pr σ2 (whileN (evalE G c) (execs G b) m env2) F2 H2 env2, fun σ2 H2 h => ⟨m, Nat.lt_succ_self m, h⟩, F1, env1, sr, ?_⟩
        refine loop_body (next := whileN (evalE G c) (execs G b) m) ?_ fun σ2 F2 H2 env2 st t2 => ⟨F2, env2, st.sr, t2⟩
        exact t1
      | false => exact t1 σ' F1 H1 (Step.refl sr)
    | _ => exact t1.elim
theorem s_for (A : AtS B P G N k W X) {t : Tg} {it : It} {b : Ss} {tg iter : Expr} {x : List Stmt} {pos : Pos} (ht : chkTg N k t tg = true) (hp : (tgSlots t).all (fun i => !pr.contains i) = true) (hi : chkIt P N k it iter tg = true) (hs : noSet iter = true)
    (hb : PSs X x (GS B W pr (execs G b))) : PS X (.For tg iter x [] pos) (GS B W pr (exec G (.for t it b))) := by
  refine PS.mono (ps_for A.own A.S.O.calm (sndIt it k W X iter tg A.toAt hi) (pg_ok A.toAt t tg ht) hb (fold_of hs X.env)) fun D σ H ⟨F, env, S, tl⟩ => ?_
  rw [exec] at tl
  refine ⟨F, env, S, (tellS_bind tl).mono fun xs env1 F1 H1 fr sr ow t1 J wJ => ?_⟩
  have wk : L2.Walk J xs.length (fun H' => Ex F1 H') (fun i H x H' => ∀ F2, Ex F1 F2 → Ex F2 H → ∃ F3 d, xs[i]? = some d ∧ Fr (fun _ => False) F2 H F3 H' ∧ Ex F3 H' ∧ (∀ b o, H b = some o → H' b = some o) ∧ (∀ b ps, F3 b = some (.tbl ps) → F2 b = some (.tbl ps)) ∧ Rep B F3 x d) :=
    ⟨fun i H hi h => wJ.goes i H hi h, fun H h => wJ.stops H h, fun i H x H' hi h y F2 e1 e2 => wJ.yields i H F2 x H' hi e1 e2 y⟩
  refine for_it wk (fun i σ' H' => ∃ F' env', Step B pr σ F1 H1 env1 σ' F' H' env' ∧ TellS B W D pr σ' (forN t (execs G b) (xs.drop i) env') F' H' env') ⟨F1, env1, Step.refl sr, t1⟩ (fun i σ' H' _ ⟨F', env', st, _⟩ => st.fr.ext.trans st.sr.ext) ?_ ?_
  · rintro i x σ' Hh H' hi ⟨F2, env2, st, t2⟩ y
    obtain ⟨F3, d, hd, f3, ex3, up3, nt3, rx⟩ := y F2 st.fr.ext st.sr.ext
    have hdrop : xs.drop i = d :: xs.drop (i + 1) := by
      obtain ⟨hlt, hde⟩ := List.getElem?_eq_some_iff.mp hd
      rw [← hde]
      exact List.drop_eq_getElem_cons hlt
    rw [hdrop] at t2
    simp only [forN] at t2
    cases hput : put t d env2 with
    | none => rw [hput] at t2; exact t2.elim
    | some env3 =>
      rw [hput] at t2
      have s3 := sr_step st.sr f3 ex3 up3 nt3
      have st3 : Step B pr σ' F2 Hh env2 σ' F3 H' env2 := ⟨f3.mono fun _ z => z.elim, s3, fun b z => .inl z, fun _ _ => rfl, rfl⟩
      refine ⟨F3, env2, d, env3, s3, rx, hput, fun σ4 s4 hj ho => ⟨F3, env3, s4, ?_⟩⟩
      have st4 : Step B pr σ' F3 H' env2 σ4 F3 H' env3 := ⟨Fr.refl, s4, fun b h => .inl (ho b h), fun i hi => hj i fun hm => by
        have := (List.all_eq_true.mp hp) i hm
        simp at this
        exact this hi, by rw [← s4.len, put_length hput, s3.len]⟩
      have stA := (st.trans st3).trans st4
      refine loop_body (next := forN t (execs G b) (xs.drop (i + 1))) (TellS.from_ (σ := σ') (F := F2) (H := Hh) (env := env2) ?_ (st3.trans st4)) fun σ5 F5 H5 env5 st5 t5 => ⟨F5, env5, stA.trans st5, t5⟩
      exact t2
  · rintro σ' Hh ⟨F2, env2, st, t2⟩
    rw [List.drop_length] at t2
    simp only [forN] at t2
    exact t2 σ' F2 Hh (Step.refl st.sr)
theorem s_aug (A : At B P G N k W X) {i : Nat} {o : Op} {e : E} {x : Str} {op : Operator} {v : Expr} {p pos : Pos} (hs : storeB N k i (.Name x p) = true) (hp : pr.contains i = false) (he : chkE P N k e v = true) (hb : noBor e = true)
    (ho : (match o, op with
    | .add, .Add => true
    | .sub, .Sub => true
    | _, _ => false) = true) : PS X (.AugAssign (.Name x p) op v pos) (GS B W pr (exec G (.aug i o e))) := by
  obtain ⟨x', p', e1, h1, h2, h3⟩ := storeB_of A hs
  cases e1
  have key : ∀ {f : Int → Int → Int}, PIp X op (ipI f) → (∀ (i j : Int), sem o [.int i, .int j] = some (.int (f i j))) → (∀ (i : Int) (d : D), (∀ j, d ≠ .int j) → sem o [.int i, d] = none) → PS X (.AugAssign (.Name x p) op v pos) (GS B W pr (exec G (.aug i o e))) := fun {f} ip hse hno => by
    refine PS.mono (ps_aug A.S.O.nd h1 h2 ((sndE e k W X v A he).ge hb) ip h3) fun D σ H ⟨F, env, S, t⟩ => ?_
    rw [exec] at t
    have sl := S.slot i
    cases hg : getS env i with
    | v d0 =>
      rw [hg] at t sl
      cases d0 with
      | int n =>
        obtain ⟨w, hw, rw0⟩ := sl
        cases rw0
        refine ⟨.int n, hw, F, env, S, (tellS_bind t).mono fun d env1 F1 H1 fr sr ow t1 v rv => ?_⟩
        by_cases hd : ∃ j, d = .int j
        · obtain ⟨j, rfl⟩ := hd
          cases rv
          rw [hse] at t1
          exact ⟨n, j, rfl, rfl, t1 _ F1 H1 (step_store sr (.inr rfl) (by simpa using hp) (out_v (.int _)) (Step.refl sr) (fun z => nomatch z))⟩
        · rw [hno n d fun j e => hd ⟨j, e⟩] at t1
          exact t1.elim
      | _ => exact t.elim
    | _ => rw [hg] at t; exact t.elim
  have no : ∀ (f : Int → Int → Py.D) (i : Int) (d : Py.D), (∀ j, d ≠ .int j) → sInt2 (fun _ _ => true) f [.int i, d] = none := fun f i d hd => by
    cases d <;> first | rfl | exact absurd rfl (hd _)
  split at ho
  · exact key ip_add (fun i j => rfl) (fun i d hd => by cases d <;> first | rfl | exact absurd rfl (hd _))
  · exact key ip_sub (fun i j => rfl) (fun i d hd => no _ i d hd)
  · cases ho
theorem s_rse (A : At B P G N k W X) {c : Nat} {x : Str} {p p2 pos : Pos} (hg : isGl k.sc x (P.en c) = true) (hc : c < P.ne) : PS X (.Raise (some (.Call (.Name x p) [] [] p2)) none pos) (GS B W pr (exec G (.rse c .nil))) := by
  obtain ⟨rfl, hgl⟩ := gl_of A.hs hg
  obtain ⟨hd, hm, T, fI, j, fd, iC, tI, hr, hb, F⟩ := A.S.er c hc
  refine PS.mono (ps_raise A.S.O.calm A.tk (pmk_oex0 T iC tI F hr hb (fun _ _ _ _ _ _ _ h => ?_) hgl hm hd)) fun D σ H ⟨F, env, S, t⟩ => ?_
  · obtain ⟨_, _, _, _, _, _, _, _, _, _, _, _, z⟩ := h
    exact z.elim
  · rw [exec] at t
    exact t σ F H none (Step.refl S) (.inl ⟨rfl, rfl⟩)
theorem s_pass {pos : Pos} : PS X (.Pass pos) (GS B W pr (exec G .pass)) := PS.mono ps_pass fun D σ H ⟨F, env, S, t⟩ => by rw [exec] at t; exact t σ F H (Step.refl S)
theorem s_doc {x : Str} {j : Nat} {pos pos' : Pos} : PS X (.Expr (.Constant (.str x) j pos) pos') (GS B W pr (exec G .pass)) := PS.mono ps_doc fun D σ H ⟨F, env, S, t⟩ => by rw [exec] at t; exact t σ F H (Step.refl S)
theorem s_brk {pos : Pos} : PS X (.Break pos) (GS B W pr (exec G .brk)) := PS.mono ps_break fun D σ H ⟨F, env, S, t⟩ => by rw [exec] at t; exact t σ F H (Step.refl S)
theorem s_cont {pos : Pos} : PS X (.Continue pos) (GS B W pr (exec G .cont)) := PS.mono ps_continue fun D σ H ⟨F, env, S, t⟩ => by rw [exec] at t; exact t σ F H (Step.refl S)
theorem ss_nil : PSs X [] (GS B W pr (execs G .nil)) := PSs.mono pss_nil fun D σ H ⟨F, env, S, t⟩ => by rw [execs] at t; exact t σ F H (Step.refl S)
theorem ss_cons {s : S} {ss : Ss} {x : Stmt} {xs : List Stmt} (h1 : PS X x (GS B W pr (exec G s))) (h2 : PSs X xs (GS B W pr (execs G ss))) : PSs X (x :: xs) (GS B W pr (execs G (.cons s ss))) := by
  refine PSs.mono (pss_cons h1 h2) fun D σ H ⟨F, env, S, t⟩ => ⟨F, env, S, ?_⟩
  rw [execs] at t
  cases z : exec G s env with
  | stuck => rw [z] at t; exact t
  | exc c ds e => rw [z] at t; exact t
  | ok f e =>
    rw [z] at t
    cases f with
    | nxt => exact fun σ' F' H' st => ⟨F', e, st.sr, TellS.from_ (r := execs G ss e) t st⟩
    | brk => exact t
    | cont => exact t
    | ret o => exact t
mutual
theorem sndS : ∀ (s : S) (k : Bk) (W : WX) (X : Cx) (ast : Stmt), AtS B P G N k W X → chkS P N k pr s ast = true → PS X ast (GS B W pr (exec G s))
  | .asg i e, k, W, X, ast, A, h => by
    unfold chkS at h
    split at h <;> first | contradiction | skip
    rename_i heq; cases heq
    simp only [Bool.and_eq_true, Bool.or_eq_true, Bool.not_eq_true'] at h
    obtain ⟨⟨⟨⟨h1, h2⟩, h3⟩, h4⟩, h5⟩ := h
    exact s_asg A.toAt h1 h2 h3 h4 h5
  | .asgO i e, k, W, X, ast, A, h => by
    unfold chkS at h
    split at h <;> first | contradiction | skip
    rename_i heq; cases heq
    simp only [Bool.and_eq_true, Bool.or_eq_true, Bool.not_eq_true'] at h
    obtain ⟨⟨⟨⟨h1, h2⟩, h3⟩, h4⟩, h5⟩ := h
    exact s_asgO A.toAt h1 h2 h3 h4 h5
  | .unp t e, k, W, X, ast, A, h => by
    unfold chkS at h
    split at h <;> first | contradiction | skip
    rename_i heq; cases heq
    simp only [Bool.and_eq_true, Bool.not_eq_true'] at h
    obtain ⟨⟨⟨⟨h1, h2⟩, h3⟩, h4⟩, h5⟩ := h
    exact s_unp A.toAt h1 h2 h3 h4 h5
  | .set i x e, k, W, X, ast, A, h => by
    unfold chkS at h
    split at h <;> first | contradiction | skip
    rename_i heq; cases heq
    simp only [Bool.and_eq_true, Bool.not_eq_true'] at h
    obtain ⟨⟨⟨⟨⟨h1, h2⟩, h3⟩, h4⟩, h5⟩, h6⟩ := h
    exact s_set A.toAt h1 h2 h3 h4 h5 h6
  | .app i e, k, W, X, ast, A, h => by
    unfold chkS at h
    split at h <;> first | contradiction | skip
    rename_i heq; cases heq
    simp only [Bool.and_eq_true, beq_iff_eq] at h
    obtain ⟨⟨⟨⟨⟨h1, h2⟩, h3⟩, h4⟩, h5⟩, h6⟩ := h
    exact s_app A.toAt h1 h2 h3 h4 h5 (by simpa using h6)
  | .stf i f e, k, W, X, ast, A, h => by
    unfold chkS at h
    contradiction
  | .ex e, k, W, X, ast, A, h => by
    unfold chkS at h
    split at h <;> first | contradiction | skip
    rename_i heq; cases heq
    simp only [Bool.and_eq_true, Bool.not_eq_true'] at h
    exact s_ex A.toAt h.1.1 h.1.2 h.2
  | .ret e, k, W, X, ast, A, h => by
    unfold chkS at h
    split at h <;> first | contradiction | skip
    rename_i heq; cases heq
    simp only [Bool.and_eq_true] at h
    exact s_ret A.toAt h.1 h.2
  | .retO e, k, W, X, ast, A, h => by
    unfold chkS at h
    split at h <;> first | contradiction | skip
    rename_i heq; cases heq
    simp only [Bool.and_eq_true] at h
    exact s_retO A.toAt h.1 h.2
  | .retM i, k, W, X, ast, A, h => by
    unfold chkS at h
    split at h <;> first | contradiction | skip
    rename_i heq; cases heq
    exact s_retM A.toAt h
  | .retN, k, W, X, ast, A, h => by
    unfold chkS at h
    split at h <;> first | contradiction | skip
    exact s_retN
  | .ite c a b, k, W, X, ast, A, h => by
    unfold chkS at h
    split at h <;> first | contradiction | skip
    rename_i heq; cases heq
    simp only [Bool.and_eq_true] at h
    obtain ⟨⟨⟨h1, h2⟩, h3⟩, h4⟩ := h
    exact s_ite A.toAt h1 h2 (sndSs a k W X _ A h3) (sndSs b k W X _ A h4)
  | .for t it b, k, W, X, ast, A, h => by
    unfold chkS at h
    split at h <;> first | contradiction | skip
    rename_i heq; cases heq
    simp only [Bool.and_eq_true] at h
    obtain ⟨⟨⟨⟨h1, h2⟩, h3⟩, h4⟩, h5⟩ := h
    exact s_for A h1 h2 h3 h5 (sndSs b k W X _ A h4)
  | .whl n c b, k, W, X, ast, A, h => by
    unfold chkS at h
    split at h <;> first | contradiction | skip
    rename_i heq; cases heq
    simp only [Bool.and_eq_true] at h
    exact s_whl A h.1.1 h.1.2 (sndSs b k W X _ A h.2)
  | .aug i o e, k, W, X, ast, A, h => by
    unfold chkS at h
    split at h <;> first | contradiction | skip
    rename_i heq; cases heq
    rw [Bool.and_eq_true, Bool.and_eq_true, Bool.and_eq_true, Bool.and_eq_true, Bool.not_eq_true'] at h
    obtain ⟨⟨⟨⟨h1, h2⟩, h3⟩, h4⟩, h5⟩ := h
    exact s_aug A.toAt h1 h2 h3 h4 h5
  | .rse c es, k, W, X, ast, A, h => by
    cases es with
    | cons _ _ =>
      unfold chkS at h
      contradiction
    | nil =>
      unfold chkS at h
      split at h <;> first | contradiction | skip
      rename_i heq; cases heq
      simp only [Bool.and_eq_true, decide_eq_true_eq] at h
      exact s_rse A.toAt h.1 h.2
  | .pass, k, W, X, ast, A, h => by
    unfold chkS at h
    split at h <;> first | contradiction | skip
    · exact s_pass
    · exact s_doc
  | .brk, k, W, X, ast, A, h => by
    unfold chkS at h
    split at h <;> first | contradiction | skip
    exact s_brk
  | .cont, k, W, X, ast, A, h => by
    unfold chkS at h
    split at h <;> first | contradiction | skip
    exact s_cont
theorem sndSs : ∀ (ss : Ss) (k : Bk) (W : WX) (X : Cx) (ast : List Stmt), AtS B P G N k W X → chkSs P N k pr ss ast = true → PSs X ast (GS B W pr (execs G ss))
  | .nil, k, W, X, [], A, h => ss_nil
  | .nil, k, W, X, _ :: _, A, h => by simp [chkSs] at h
  | .cons s ss, k, W, X, [], A, h => by simp [chkSs] at h
  | .cons s ss, k, W, X, x :: xs, A, h => by
    simp only [chkSs, Bool.and_eq_true] at h
    exact ss_cons (sndS s k W X x A h.1) (sndSs ss k W X xs A h.2)
end
end
end Py
end
section
set_option Elab.async false
set_option linter.all false
set_option maxRecDepth 100000
set_option maxHeartbeats 4000000
/-! Py over HandS: a def. -/
namespace Py
open PySem PySem.Spec PyProof.Rows L2
theorem own_in : ∀ {prot : List Nat} {k : Nat} {os : List O}, ownOk prot k os = true → ∀ {i : Nat}, isOwn (getS os i) = true → k + i ∈ prot
  | _, _, [], _, i, h => by cases i <;> cases h
  | prot, k, o :: os, h, 0, hi => by
    simp only [ownOk, Bool.and_eq_true] at h
    cases o <;> first | (cases hi; done) | (simpa using h.1)
  | prot, k, o :: os, h, i + 1, hi => by
    simp only [ownOk, Bool.and_eq_true] at h
    have := own_in h.2 (i := i) hi
    have e : k + 1 + i = k + (i + 1) := by omega
    rw [e] at this
    exact this
theorem finals_len : ∀ {os : List O} {env : Env}, os.length ≤ env.length → (finals os env).length = os.length
  | [], env, _ => by cases env <;> rfl
  | _ :: _, [], h => by simp at h
  | o :: os, e :: env, h => by simp [finals, finals_len (os := os) (env := env) (by simpa using h)]
theorem finals_at : ∀ {os : List O} {env : Env}, os.length ≤ env.length → ∀ i, getS (finals os env) i = (match getS os i with
    | .v d => .v d
    | .un => .un
    | _ => getS env i)
  | [], env, _, i => by cases env <;> cases i <;> rfl
  | _ :: _, [], h, _ => by simp at h
  | o :: os, e :: env, h, 0 => by cases o <;> rfl
  | o :: os, e :: env, h, i + 1 => by simpa [finals] using finals_at (os := os) (env := env) (by simpa using h) i
theorem getS_app : ∀ (os : List O) (n i : Nat), getS (os ++ List.replicate n O.un) i = getS os i
  | [], n, i => by
    simp only [List.nil_append]
    induction n generalizing i with
    | zero => rfl
    | succ n ih => cases i with
      | zero => rfl
      | succ i => rw [List.replicate_succ]; simpa using (ih i).trans (by cases i <;> rfl)
  | o :: os, n, 0 => rfl
  | o :: os, n, i + 1 => by simpa using getS_app os n i
section
variable {B : Tb} {F H : Hp} {vs : List V} {os : List O} {N : List Str}
theorem start_at {i : Nat} (h : i < vs.length) : (L2.start N vs)[i]? = (vs.map some)[i]? := by
  unfold L2.start
  rw [List.getElem?_append_left (by simpa using h)]
theorem start_sr (S : SR B F H (vs.map some) os) (hl : vs.length ≤ N.length) : SR B F H (L2.start N vs) (os ++ List.replicate (N.length - vs.length) .un) := by
  have lo : os.length = vs.length := by have := S.len; simpa using this
  refine ⟨S.ext, S.tab, S.notab, by unfold L2.start; simp [lo], fun i => ?_, fun i j p h1 h2 h3 h4 => ?_⟩
  · rw [getS_app]
    by_cases h : i < vs.length
    · rw [start_at h]; exact S.slot i
    · rw [getS_none (by omega)]; trivial
  · rw [getS_app] at h1 h2
    have key : ∀ i, isOwn (getS os i) = true → i < vs.length := fun i h => by
      by_cases hi : i < vs.length
      · exact hi
      · rw [getS_none (by omega)] at h; cases h
    rw [start_at (key i h1)] at h3
    rw [start_at (key j h2)] at h4
    exact S.apart i j p h1 h2 h3 h4
theorem start_ow (S : SR B F H (vs.map some) os) {b : Addr} (h : Ow (os ++ List.replicate (N.length - vs.length) .un) (L2.start N vs) b) : Ow os (vs.map some) b := by
  obtain ⟨i, h1, h2⟩ := h
  rw [getS_app] at h1
  have lo : os.length = vs.length := by have := S.len; simpa using this
  by_cases hi : i < vs.length
  · rw [start_at hi] at h2
    exact ⟨i, h1, h2⟩
  · rw [getS_none (by omega)] at h1; cases h1
/-- at a def's end -/
theorem fin_sr {prot : List Nat} {σ' : L2.St} {F' H' : Hp} {env' : Env} (S : SR B F H (vs.map some) os) (hl : vs.length ≤ N.length) (ho : ownOk prot 0 os = true) (st : Step B prot (L2.start N vs) F H (os ++ List.replicate (N.length - vs.length) .un) σ' F' H' env') :
    SR B F' H' (vs.map some) (finals os env') ∧ (∀ b, Ow (finals os env') (vs.map some) b → Ow env' σ' b ∧ Ow os (vs.map some) b) := by
  have lo : os.length = vs.length := by have := S.len; simpa using this
  have le : os.length ≤ env'.length := by
    rw [st.sr.len, st.len, lo]
    unfold L2.start
    simp
  have at_ : ∀ i, isOwn (getS (finals os env') i) = true → isOwn (getS os i) = true ∧ getS (finals os env') i = getS env' i ∧ i ∈ prot ∧ i < vs.length := fun i h => by
    have e := finals_at le i
    have own : isOwn (getS os i) = true := by
      rw [e] at h
      cases z : getS os i <;> rw [z] at h <;> first | (cases h; done) | rfl
    refine ⟨own, ?_, by simpa using own_in ho own, ?_⟩
    · rw [e]
      cases z : getS os i <;> rw [z] at own <;> first | (cases own; done) | rfl
    · by_cases hi : i < vs.length
      · exact hi
      · rw [getS_none (by omega)] at own; cases own
  refine ⟨⟨st.sr.ext, st.sr.tab, st.sr.notab, by rw [finals_len le, S.len], fun i => ?_, fun i j p h1 h2 h3 h4 => ?_⟩, fun b ⟨i, h1, h2⟩ => ?_⟩
  · by_cases hown : isOwn (getS os i) = true
    · have hi : i < vs.length := by
        by_cases hi : i < vs.length
        · exact hi
        · rw [getS_none (by omega)] at hown; cases hown
      have hp : i ∈ prot := by simpa using own_in ho hown
      have e : getS (finals os env') i = getS env' i := by
        rw [finals_at le]
        cases z : getS os i <;> rw [z] at hown <;> first | (cases hown; done) | rfl
      rw [e, ← start_at (N := N) hi, ← st.pr i hp]
      exact st.sr.slot i
    · have sl := S.slot i
      rw [finals_at le]
      cases z : getS os i with
      | un => trivial
      | v d =>
        rw [z] at sl
        obtain ⟨v, e, r⟩ := sl
        exact ⟨v, e, r.ex st.fr.ext⟩
      | _ => rw [z] at hown; exact absurd rfl hown
  · obtain ⟨_, a2, a3, a4⟩ := at_ i h1
    obtain ⟨_, b2, b3, b4⟩ := at_ j h2
    rw [a2] at h1
    rw [b2] at h2
    exact st.sr.apart i j p h1 h2 (by rw [st.pr i a3, start_at a4]; exact h3) (by rw [st.pr j b3, start_at b4]; exact h4)
  · obtain ⟨a1, a2, a3, a4⟩ := at_ i h1
    rw [a2] at h1
    exact ⟨⟨i, h1, by rw [st.pr i a3, start_at a4]; exact h2⟩, ⟨i, a1, h2⟩⟩
theorem callF_ok {G : Cfg} {f : Fn} {fin : List O} {r : CRes} (h : callF G f os = r) (hr : r ≠ .stuck) : os.length = f.np ∧ ownOk f.prot 0 os = true ∧ (match execs G f.body (os ++ List.replicate (f.ns - f.np) .un) with
    | .ok .nxt env => CRes.ret (.v .non) (finals os env)
    | .ok (.ret o) env => .ret o (finals os env)
    | .exc c ds env => .exc c ds (finals os env)
    | _ => .stuck) = r := by
  unfold callF at h
  split at h
  · rename_i c
    exact ⟨c.1, c.2, h⟩
  · exact absurd h.symm hr
/-- THE RULE: a def -/
theorem fn_py {P : Program} {w : World} {K : PySem.W.Frag} {mg : Str → Option Value} {base : Heap} {Pr : Prg} {G : Cfg} {x qual : Str} {st : Stmt} {f : Addr} {ps : List Str} {k : Nat} {fi : Fn} {ws : Bool}
    {dV kV doc pm cdv ct oc : Value} {an od : Option Addr} {osl : Array (Option Value)} (lk : K.lookup f = some ⟨oc, od, .func (PySem.W.fnOf x qual (defArgs st) (defBody st) (defScope st) dV kV doc pm an cdv ct), osl⟩) (hcd : PySem.W.codeIn K cdv qual = true)
    (S : FnScope N ps (defScope st)) (hnp : ps.length = fi.np) (hns : N.length = fi.ns) (hle : fi.np ≤ fi.ns) (hk : chkSs Pr N ⟨defScope st, fun _ => true, ws⟩ fi.prot fi.body (defBody st) = true)
    (hsk : ∀ (A : Around) (outer : List PySem.Env) (s : Shared) (H : Hp) (E : XK), Room k (A.deeper (envOfC qual (defScope st) s.heap.objs.size f cdv)) → Sk B Pr G (cxOf (L2.CX P w) P w K mg base N qual (defScope st) f cdv A outer s H E) ∧ (ws = true → WdF B Pr G (cxOf (L2.CX P w) P w K mg base N qual (defScope st) f cdv A outer s H E))) :
    FnOk P w K mg base (L2.CX P w) (k + 1) f (PySem.W.fnOf x qual (defArgs st) (defBody st) (defScope st) dV kV doc pm an cdv ct) ps (spI B (callF G fi)) := by
  refine fn_of lk hcd S (fun vs H Q E h => ?_) fun A outer s H vs Q E hr hsp => ?_
  · obtain ⟨F, os, S, t⟩ := h
    cases z : callF G fi os with
    | stuck => rw [z] at t; exact t.elim
    | _ =>
      obtain ⟨h1, _, _⟩ := callF_ok (fin := []) z (fun q => nomatch q)
      have := S.len
      simp at this
      omega
  · obtain ⟨F, os, S0, t⟩ := hsp
    obtain ⟨sk, wd⟩ := hsk A outer s H E hr
    have At0 : AtS B Pr G N ⟨defScope st, fun _ => true, ws⟩ (fun cls d _ H' => E cls d H') (cxOf (L2.CX P w) P w K mg base N qual (defScope st) f cdv A outer s H E) :=
      { S := sk, hN := rfl, hs := rfl, hc := fun _ _ => rfl, tk := takes_of rfl rfl rfl rfl, own := passes_of rfl, wd := wd }
    have hcall : callF G fi os ≠ .stuck := fun z => by rw [z] at t; exact t
    obtain ⟨h1, h2, h3⟩ := callF_ok (fin := []) rfl hcall
    have lo : os.length = vs.length := by have := S0.len; simpa using this
    have hl : vs.length ≤ N.length := by omega
    have er : os ++ List.replicate (fi.ns - fi.np) O.un = os ++ List.replicate (N.length - vs.length) O.un := by rw [hns, ← lo, h1]
    refine ⟨_, sndSs (pr := fi.prot) fi.body _ _ _ _ At0 hk, F, os ++ List.replicate (fi.ns - fi.np) .un, by rw [er]; exact start_sr S0 hl, ?_⟩
    rw [← h3] at t
    have gone : ∀ {env' σ' F' H'}, Step B fi.prot (L2.start N vs) F H (os ++ List.replicate (fi.ns - fi.np) .un) σ' F' H' env' →
        Fr (Ow os (vs.map some)) F H F' H' ∧ SR B F' H' (vs.map some) (finals os env') ∧ (∀ b, Ow (finals os env') (vs.map some) b → Ow os (vs.map some) b) ∧ (∀ b, Ow (finals os env') (vs.map some) b → Ow env' σ' b) := fun {env' σ' F' H'} stp => by
      rw [er] at stp
      obtain ⟨q1, q2⟩ := fin_sr S0 hl h2 stp
      exact ⟨stp.fr.mono fun b z => start_ow S0 z, q1, fun b z => (q2 b z).2, fun b z => (q2 b z).1⟩
    cases z : execs G fi.body (os ++ List.replicate (fi.ns - fi.np) .un) with
    | stuck => rw [z] at t; exact t
    | exc c ds env' =>
      rw [z] at t
      intro σ' F' H' dd stp er'
      obtain ⟨q1, q2, q3, _⟩ := gone stp
      exact t F' H' dd q1 q2 q3 er'
    | ok fl env' =>
      rw [z] at t
      cases fl with
      | brk => exact t.elim
      | cont => exact t.elim
      | nxt =>
        intro σ' F' H' stp
        obtain ⟨q1, q2, q3, _⟩ := gone stp
        exact t .non F' H' q1 q2 q3 (out_v .non) (fun z => nomatch z)
      | ret o =>
        intro v σ' F' H' stp out np
        obtain ⟨q1, q2, q3, q4⟩ := gone stp
        refine t v F' H' q1 q2 q3 ⟨out.1, out.2.1, fun ho p hp z => out.2.2 ho p hp (q4 p z)⟩ fun ho p hp => ?_
        rcases np ho p hp with y | y
        · rw [er] at y
          exact .inl (start_ow S0 y)
        · exact .inr y
end
end Py
end
section
set_option Elab.async false
set_option linter.all false
set_option maxRecDepth 100000
set_option maxHeartbeats 4000000
/-! Py over HandS: the def that calls its lambda and tells what error came. -/
namespace Py
open PySem PySem.Spec PyProof.Rows L2
/-! ### rules in an except suite -/
section
variable {X : Cx}
def rCntF (K : PySem.W.Frag) : V → List V → Hp → VK → Prop := fun x xs H Q => ∃ (p : Addr) (ys : List V) (y : V), x = .ref p ∧ xs = [y] ∧ SqL K H p ys ∧ flatV y = true ∧ ys.all flatV = true ∧ Q (.int (ys.countP fun z => eqV z y : Nat)) H
theorem cnt_vals {y : V} : ∀ {ys : List V} {us : List Value}, Vals ys us → ys.all flatV = true → us.countP (eqU y) = ys.countP fun z => eqV z y
  | _, _, .nil, _ => rfl
  | _, _, .cons r t, h => by
    simp only [List.all_cons, Bool.and_eq_true] at h
    rw [List.countP_cons, List.countP_cons, cnt_vals t h.2, eqU_of r h.1]
theorem mt_cntF : MtR X "list.count" (rCntF X.K) := by
  intro pins s σ H x xs v us Q I rx rxs h
  obtain ⟨a, ys, y, rfl, rfl, hs, fy, fys, q⟩ := h
  cases rx
  cases rxs with
  | cons ry rt =>
    rename_i uy ut
    cases rt
    obtain ⟨its, rv, ⟨⟨cls, dd, data, sl⟩, n, ho, hc, hdn, hd⟩, hlen⟩ := I.list hs
    simp only at hc hd
    subst hc hd
    refine call_meets PySem.F.slot_list_count ⟨_, ho, rfl⟩ PySem.F.entry_list_count (PySem.F.args_list_count_2 _ _)
      (SeqAt.list_countAt a its.toArray n dd sl uy (eqU y)) ⟨ho, fun u' hu' => mem_eqAt ry fy rv fys u' (by simpa using hu'), ?_⟩
    have ec : its.toArray.toList.countP (eqU y) = ys.countP fun z => eqV z y := cnt_vals rv fys
    refine ⟨.int (ys.countP fun z => eqV z y : Nat), H, I.tok _, ⟨s.toks, ?_⟩, q⟩
    show Value.int ((its.toArray.toList.countP (eqU y) : Nat) : Int) s.toks = _
    rw [ec]
theorem call_isE2 {a D : Addr} {oe : Obj} (hp : (a, oe) ∈ X.pn) (C : ExcC X.K D) (hz : Zc (.ref D) none oe) (hf : ∃ vs, oe.data = .fields vs) : CallR X (.builtin "isinstance") (rIsE X.K D a) := by
  intro pins s σ H xs us Q I r h
  obtain ⟨c, cv, b, rfl, hcv, e, q⟩ := h
  cases r with
  | cons rx rr =>
    cases rr with
    | cons rt rr =>
      cases rr
      cases rx
      have ec := hcv _ rt
      subst ec
      obtain ⟨hget, _⟩ := I.pin (a, oe) (List.mem_append_left _ hp)
      obtain ⟨vs, hv⟩ := hf
      have J : PySem.W.InstAt s.heap a oe D none := by
        obtain ⟨oc, od, oda, osl⟩ := oe
        obtain ⟨h1, h2⟩ := hz
        dsimp only at h1 h2 hv
        subst h1 h2 hv
        exact ⟨hget, rfl, rfl, trivial⟩
      exact PySem.W.kia_one (PySem.W.handS_kitx_exc C.hg C.hk C.hs C.hd C.ha C.hn C.ht C.hm) I.kIn J e (fun z => nomatch z) fun tk => ⟨.bl b, H, I.kept (t' := tk) fun _ _ z => z, rfl, q⟩
end
/-- a def called in a suite, its promise told of the very state -/
theorem run_ofH {CX : CXT} {P : Program} {w : World} {K : PySem.W.Frag} {mg : Str → Option Value} {base : Heap} {k : Nat} {f : Addr} {name qual : Str} {params : Arguments} {body : List Stmt} {scope : Scope} {dV kV doc pm cdv ct oc : Value} {an od : Option Addr}
    {osl : Array (Option Value)} {N ps : List Str} (lk : K.lookup f = some ⟨oc, od, .func (PySem.W.fnOf name qual params body scope dV kV doc pm an cdv ct), osl⟩) (hcd : PySem.W.codeIn K cdv qual = true) (S : FnScope N ps scope)
    {A : Around} {outer : List PySem.Env} {s : Shared} {H : Hp} {args : Args} {us : List Value} {vs : List V} {Q : VK} {E : XK} {p : Addr × Obj} (hr : L2H.RoomH (k + 1) A) (hpin : L2H.PinOk outer H s p) (e0 : Env0 P w K mg base A outer s H) (hb : BindsTo s (PySem.W.fnOf name qual params body scope dV kV doc pm an cdv ct) args (ps.zip us)) (r : Vals vs us) (hl : vs.length = ps.length)
    (hbody : L2H.RoomH k (A.deeper (envOfC qual scope s.heap.objs.size f cdv)) → ∃ t, PSs (L2H.cxH CX P w K mg base N qual scope f cdv A outer s H E p) body t ∧ t { nx := fun _ H' => Q .non H', rt := Q } (L2.start N vs) H) :
    codeAny (model P w) A (.call (.ref f) args) (CR CX outer P w H s Q E) s := by
  have KX : K.In s.heap := e0.mod.kin.keeps fun b o e => (e0.bs b o e).1
  have lim : s.heap.NoLimit := e0.mod.nolimit.keeps fun b o e => (e0.bs b o e).1
  have hkind : ∀ y ∈ ps.zip us, scope.names.lookup y.1 = some .local ∨ (scope.names.lookup y.1 = some .cell ∧ ((cellsFrom (s.heap.objs.size + 1) scope.names []).lookup y.1).isSome = true) := fun ⟨n, v⟩ hy => by
    rcases S.par n (List.of_mem_zip hy).1 with q | q
    · exact .inl q
    · exact .inr ⟨q, PySem.W.cellsFrom_some _ _ _ (.inl q)⟩
  refine codeAny_call_function hr.depth (KX _ _ lk) rfl S.co S.gen rfl (PySem.W.codeRec_of KX hcd) (hb _ _ _ _ ?_)
  refine wpAny_newFunctionEnv_cells S.kind hkind fun env he s1 x => ?_
  subst he
  refine ⟨lim.keeps x.toInCall.keep, codeAny_func ?_⟩
  obtain ⟨t, ht, hq⟩ := hbody (hr.deeper _)
  have I : Inv (L2H.cxH CX P w K mg base N qual scope f cdv A outer s H E p) [] (L2.start N vs) H s1 := L2H.inv_startH S hpin e0 hl r x
  refine wpAny_mono (ht.run [] s1 (L2.start N vs) H _ I hq) (fun fl s' hs => ?_) fun e s' hs => hs
  have fin : ∀ {σ' : L2.St} {H' : Hp} {v : V} {u : Value}, Inv (L2H.cxH CX P w K mg base N qual scope f cdv A outer s H E p) [] σ' H' s' → L2.RelV v u → Q v H' → CE outer P w H s Q u s' :=
    fun {σ' H' v u} J rv q => ⟨v, H', J.os, J.bare, J.base, J.hok, rv, q⟩
  cases fl with
  | ret u =>
    obtain ⟨v, σ', H', J, rv, q⟩ := hs
    exact fin J rv q
  | next =>
    obtain ⟨σ', H', J, q⟩ := hs
    exact fin (v := V.non) (u := Value.none) J rfl q
  | brk =>
    obtain ⟨_, _, _, q⟩ := hs
    exact False.elim q
  | cont =>
    obtain ⟨_, _, _, q⟩ := hs
    exact False.elim q

/-! ### the flags -/
/-- isinstance(error, C), .. -/
def flagB (sc : Scope) : List Str → List Expr → Bool
  | [], [] => true
  | c :: cs, .Call (.Name x _) [.Name y _, .Name z _] [] _ :: es => isGl sc x "isinstance" && decide (y = "error") && decide (sc.names.lookup ("error" : Str) = some .local) && isGl sc z c && !(z == ("__debug__" : Str)) && flagB sc cs es
  | _, _ => false
/-- a def that lists its argument's classes -/
structure FlagF (X : Cx) (x : Str) (cs : List Str) (ad : Str → Addr) : Prop where
  ex : ∃ (g : Addr) (pg : Arguments) (es : List Expr) (p1 p2 : Pos) (sg : Scope) (dV kV doc pm cdv ct oc : Value) (an od : Option Addr) (osl : Array (Option Value)), X.mg x = some (.ref g) ∧ PySem.W.keepIn X.K (.ref g) = true ∧
    X.K.lookup g = some ⟨oc, od, .func (PySem.W.fnOf x x pg [.Return (some (.List es p1)) p2] sg dV kV doc pm an cdv ct), osl⟩ ∧ PySem.W.codeIn X.K cdv x = true ∧ L2.Binds X.K (PySem.W.fnOf x x pg [.Return (some (.List es p1)) p2] sg dV kV doc pm an cdv ct) ["error"] [] ∧
    FnScope ["error"] ["error"] sg ∧ flagB sg cs es = true
  mg : ∀ c ∈ cs, X.mg c = some (.ref (ad c))
  isn : X.mg "isinstance" = none
def tIs (K : PySem.W.Frag) (D a : Addr) (ad : Str → Addr) (c : Str) : TE := fun σ H Q => σ[0]? = some (some (.ref a)) ∧ ∃ b, PySem.W.kitOne K (.ref D) (.ref (ad c)) = some b ∧ Q (.bl b) H
section
variable {X : Cx}
theorem pes_is {sg : Scope} {a D : Addr} {oe : Obj} {ad : Str → Addr} (hp : (a, oe) ∈ X.pn) (C : ExcC X.K D) (hz : Zc (.ref D) none oe) (hf : ∃ vs, oe.data = .fields vs) (hN : X.N = [("error" : Str)]) (hs : X.env.scope = sg) (hi : X.mg "isinstance" = none) :
    ∀ {cs : List Str} {es : List Expr}, (∀ c ∈ cs, X.mg c = some (.ref (ad c))) → flagB sg cs es = true → PEs X es (cs.map (tIs X.K D a ad)) ∧ es.all noStar = true
  | [], [], _, _ => ⟨.nil, rfl⟩
  | c :: cs, e :: es, hm, h => by
    unfold flagB at h
    split at h <;> first | contradiction | skip
    rename_i heq1 heq2
    cases heq1
    cases heq2
    simp only [Bool.and_eq_true, decide_eq_true_eq, Bool.not_eq_true'] at h
    obtain ⟨⟨⟨⟨⟨h1, rfl⟩, h3⟩, h4⟩, h5⟩, h6⟩ := h
    obtain ⟨rfl, g1⟩ := gl_of hs h1
    obtain ⟨rfl, g2⟩ := gl_of hs h4
    obtain ⟨r1, r2⟩ := pes_is hp C hz hf hN hs hi (fun c hc => hm c (List.mem_cons_of_mem _ hc)) h6
    refine ⟨.cons (PE.mono (pe_callB (call_isE2 hp C hz hf) g1 hi boot_isinstance (pa_cons (pe_var (i := 0) (by rw [hN]; rfl) (.inl (by rw [hs]; exact h3))) (pa_cons (pe_glob (v := V.ref (ad _)) g2 (hm _ List.mem_cons_self) rfl h5) pa_nil)) (by decide) (by decide)) fun σ H Q ⟨hσ, b, hb, q⟩ => ?_) (fun σ H Q Q' hq ⟨hσ, b, hb, q⟩ => ⟨hσ, b, hb, hq _ _ q⟩) r1, by rw [List.all_cons, r2]; rfl⟩
    exact ⟨_, hσ, _, _, b, rfl, fun u hu => hu, hb, q⟩
  | [], _ :: _, _, h => by simp [flagB] at h
  | _ :: _, [], _, h => by simp [flagB] at h
/-- the flags that an exception of D's would have -/
def KitL (K : PySem.W.Frag) (D : Addr) (ad : Str → Addr) : List Str → List Bool → Prop
  | [], [] => True
  | c :: cs, b :: bs => PySem.W.kitOne K (.ref D) (.ref (ad c)) = some b ∧ KitL K D ad cs bs
  | _, _ => False
theorem nest_is {K : PySem.W.Frag} {D a : Addr} {ad : Str → Addr} {σ : L2.St} {H : Hp} (hσ : σ[0]? = some (some (.ref a))) : ∀ {cs : List Str} {bs : List Bool} {k : List V → Hp → Prop}, KitL K D ad cs bs → k (bs.map V.bl) H → nest (cs.map (tIs K D a ad)) σ H k
  | [], [], _, _, q => q
  | c :: cs, b :: bs, k, ⟨h1, h2⟩, q => ⟨hσ, b, h1, nest_is hσ (k := fun xs H' => k (.bl b :: xs) H') h2 q⟩
/-- _law_flags(error) in the suite -/
theorem pe_flags {x : Str} {cs : List Str} {ad : Str → Addr} {Y : Cx} {a D : Addr} {oe : Obj} {pn : List (Addr × Obj)} {p pe pos : Pos} {j : Nat} (Ff : FlagF (Y.suite a ((a, oe) :: pn)) x cs ad) (C : ExcC Y.K D) (hz : Zc (.ref D) none oe) (hf : ∃ vs, oe.data = .fields vs)
    (hg : Gl (Y.suite a ((a, oe) :: pn)) x) (hd : (x == ("__debug__" : Str)) = false) (hr : L2H.RoomH (j + 1) (Y.suite a ((a, oe) :: pn)).A) (hN : Y.N[2]? = some ("error" : Str)) (hv : Vis Y.env.scope "error") (bs : List Bool) (hk : KitL Y.K D ad cs bs) (hl : bs.length ≤ sizeLine) :
    PE (Y.suite a ((a, oe) :: pn)) (.Call (.Name x p) [.Name "error" pe] [] pos) (fun σ H Q => σ[2]? = some (some (.ref a)) ∧ ∀ L, H L = none → Q (.ref L) (upd H L (.lst (bs.map V.bl)))) := by
  obtain ⟨g, pg, es, p1, p2, sg, dV, kV, doc, pm, cdv, ct, oc, an, od, osl, hm, hkp, lk, hcd, hb, S, hfl⟩ := Ff.ex
  refine ⟨fun pins s σ H Q I ⟨hσ, q⟩ => ?_⟩
  refine wpAny_Call_Name_kw (ld_glob I hg hm ?_ hd)
  have ha : PA (Y.suite a ((a, oe) :: pn)) [.Name "error" pe] (tCons (tVar 2) tNil) := pa_cons (pe_var (i := 2) hN hv) pa_nil
  refine PySem.W.callWith_K (h₀ := Y.base) I.ok.mod.kin hkp (thn (ha.run pos pins s σ H (fun vs H1 => vs = [V.ref a] ∧ H1 = H) I ⟨_, hσ, rfl, rfl⟩) fun us s1 ⟨vs, H1, I1, r, ev, eH⟩ => ⟨I1.kIn, ?_⟩) (by rfl) (by rfl)
  subst ev
  subst eH
  have P1 := I1.pin (a, oe) (List.mem_append_left _ List.mem_cons_self)
  have hpin : L2H.PinOk Y.stack H1 s1 (a, oe) := ⟨P1.1, P1.2.1, fun hm => (List.mem_cons.mp (I1.stkSub a hm)).elim P1.2.2.1 P1.2.2.2.1, P1.2.2.2.2⟩
  have hus : us = [Value.ref a] := by
    cases r with
    | cons r1 r2 => cases r2; rw [show _ = Value.ref a from r1]
  subst hus
  have b0 := hb s1 [.ref a] I1.kIn rfl
  have rc : codeAny (model Y.prog Y.w) (Y.suite a ((a, oe) :: pn)).A (.call (.ref g) ⟨[.ref a], []⟩) (CR C8.CX0 Y.stack Y.prog Y.w H1 s1 Q C8.E0) s1 := by
    refine run_ofH (p := (a, oe)) (us := [.ref a]) (vs := [.ref a]) lk hcd S hr hpin I1.env0 b0 (.cons rfl .nil) rfl fun hr2 => ?_
    have mem : (a, oe) ∈ (L2H.cxH C8.CX0 Y.prog Y.w Y.K Y.mg Y.base ["error"] x sg g cdv (Y.suite a ((a, oe) :: pn)).A Y.stack s1 H1 C8.E0 (a, oe)).pn := List.mem_cons_self
    obtain ⟨r1, r2⟩ := pes_is (X := L2H.cxH C8.CX0 Y.prog Y.w Y.K Y.mg Y.base ["error"] x sg g cdv (Y.suite a ((a, oe) :: pn)).A Y.stack s1 H1 C8.E0 (a, oe)) (ad := ad) mem C hz hf rfl rfl Ff.isn Ff.mg hfl
    refine ⟨_, pss_one (ps_ret (pe_lst (pas r1 r2))), ?_⟩
    refine nest_is rfl hk ⟨by rw [List.length_map]; exact hl, q⟩
  refine wpAny_call (codeAny_mono rc fun r s2 hq => ?_)
  cases r with
  | error e => exact (show False from hq).elim
  | ok fl =>
    cases fl with
    | ret u => exact I1.after hq
    | next => exact False.elim hq
    | brk => exact False.elim hq
    | cont => exact False.elim hq
end
/-! ### the word's def -/
/-- what is known of the errors that come: the flags tell the i-th -/
structure ErrW (K : PySem.W.Frag) (D HE : Addr) (cs : List Str) (ad : Str → Addr) (i : Nat) : Prop where
  exm : PySem.W.exmOne K (.ref D) (.ref HE) = some true
  exc : ExcC K D
  ve : PySem.W.kitOne K (.ref D) (.type "ValueError") = some true
  flags : ∃ bs : List Bool, KitL K D ad cs bs ∧ bs.count true = 1 ∧ bs[i]? = some true ∧ (∀ m b, m < i → bs[m]? = some b → b = false) ∧ bs.length ≤ 1000
/-- the def's syntax -/
abbrev wordSuite (wf : Str) (p : Nat → Pos) (j : Nat → Nat) : List Stmt :=
  [.Assign [.Name "flags" (p 11)] (.Call (.Name wf (p 12)) [.Name "error" (p 13)] [] (p 14)) (p 15),
        .If (.BoolOp .And [.Compare (.Call (.Attribute (.Name "flags" (p 16)) "count" (p 17)) [.Constant (.bool true) (j 4) (p 18)] [] (p 19)) [.Eq] [.Constant (.int 1) (j 5) (p 20)] (p 21),
            .Call (.Name "isinstance" (p 22)) [.Name "error" (p 23), .Name "ValueError" (p 24)] [] (p 25)] (p 26))
          [.Assign [.Name "found" (p 27)] (.Tuple [.Call (.Attribute (.Name "flags" (p 28)) "index" (p 29)) [.Constant (.bool true) (j 6) (p 30)] [] (p 31)] (j 7) (p 32)) (p 33)] [] (p 34)]
def wordBody (he wf : Str) (p : Nat → Pos) (j : Nat → Nat) : List Stmt :=
  [.Assign [.Name "found" (p 0)] (.Tuple [.Constant (.str "other") (j 0) (p 1)] (j 1) (p 2)) (p 3),
   .Try [.Assign [.Name "found" (p 4)] (.Tuple [.Constant (.str "told") (j 2) (p 5), .Call (.Name "call" (p 6)) [] [] (p 7)] (j 3) (p 8)) (p 9)]
     [.ExceptHandler (some (.Name he (p 10))) (some "error") (wordSuite wf p j) (p 35)] [] [] (p 36),
   .Return (some (.Name "found" (p 37))) (p 38)]
def wordN : List Str := ["call", "found", "error", "flags"]
theorem takes_len {X : Cx} {W : WX} (tk : Takes X W) : Takes X (fun c d σ H => σ.length = X.N.length → W c d σ H) := fun u s' ⟨a, B, sI, pins, σ, H, cls, d, e, I, nb, up, sky, na, os, ag, w⟩ =>
  tk u s' ⟨a, B, sI, pins, σ, H, cls, d, e, I, nb, up, sky, na, os, ag, w I.len⟩
theorem cnt_bl : ∀ bs : List Bool, (bs.map V.bl).countP (fun z => eqV z (.bl true)) = bs.count true
  | [] => rfl
  | b :: bs => by
    rw [List.map_cons, List.countP_cons, cnt_bl bs, List.count_cons]
    cases b <;> rfl
abbrev wordX (X : Cx) (x : Str) (sg : Scope) (g : Addr) (cdg : Value) (s : Shared) (H : Hp) : Cx := (cxOf C8.CX0 X.prog X.w X.K X.mg X.base wordN x sg g cdg X.A X.stack s H C8.E0).nox
/-- what the suite asks -/
def wordTs (K : PySem.W.Frag) (HE : Addr) (cs : List Str) (ad : Str → Addr) (a : Addr) (cls : Value) (d : Option Addr) : TS := fun D σ H => ∃ (Dc : Addr) (bs : List Bool) (i : Nat), cls = .ref Dc ∧ d = none ∧ ExcC K Dc ∧ PySem.W.kitOne K (.ref Dc) (.type "ValueError") = some true ∧
  KitL K Dc ad cs bs ∧ bs.count true = 1 ∧ bs[i]? = some true ∧ (∀ m b, m < i → bs[m]? = some b → b = false) ∧ bs.length ≤ 1000 ∧ σ[2]? = some (some (.ref a)) ∧ σ.length = 4 ∧
  ∀ L p, H L = none → upd H L (.lst (bs.map V.bl)) p = none → D.nx ((σ.set 3 (some (.ref L))).set 1 (some (.ref p))) (upd (upd H L (.lst (bs.map V.bl))) p (.tup [.int (i : Nat)]))
theorem word_gives {X : Cx} {he wf : Str} {p : Nat → Pos} {j : Nat → Nat} {g HE : Addr} {sg : Scope} {x : Str} {cdg : Value} {cs : List Str} {ad : Str → Addr} {B : Tb} {idx : Nat → Option Nat} {k : Nat}
    (hd : (wf == ("__debug__" : Str)) = false) (hdh : (he == ("__debug__" : Str)) = false) (l0 : sg.names.lookup ("found" : Str) = some .local) (l1 : sg.names.lookup ("error" : Str) = some .local) (l2 : sg.names.lookup ("flags" : Str) = some .local)
    (g0 : sg.names.lookup he = some .globalImplicit) (g1 : sg.names.lookup wf = some .globalImplicit) (g2 : sg.names.lookup ("isinstance" : Str) = some .globalImplicit) (g3 : sg.names.lookup ("ValueError" : Str) = some .globalImplicit)
    (m0 : X.mg he = some (.ref HE)) (m2 : X.mg "isinstance" = none) (m3 : X.mg "ValueError" = none) (e1 : ((p 17).endLine == (p 19).line) = true) (e2 : ((p 29).endLine == (p 31).line) = true)
    (hfl : ∀ Z : Cx, Z.prog = X.prog → Z.w = X.w → Z.K = X.K → Z.mg = X.mg → Z.base = X.base → FlagF Z wf cs ad)
    (hr : ∀ (s : Shared), L2H.RoomH (k + 1) (X.A.deeper (envOfC x sg s.heap.objs.size g cdg)))
    (hE : ∀ c i, idx c = some i → ErrW X.K (B.ca c) HE cs ad i) (q : Str) : LamX.GivesTo X wordN x sg g cdg (wordBody he wf p j) "call" q (TTw B idx) := by
  intro f c' s H Q tl act hc hTT
  have nd : wordN.Nodup := by decide
  have hsuite : ∀ (a : Addr) (oe : Obj) (cls : Value) (d : Option Addr) (pn : List (Addr × Obj)), Zc cls d oe → (∃ vs, oe.data = .fields vs) → PSs ((wordX X x sg g cdg s H).suite a ((a, oe) :: pn)) (wordSuite wf p j) (wordTs X.K HE cs ad a cls d) := fun a oe cls d pn hz hf' => by
    refine ⟨fun pins s' σ H' D I h => ?_⟩
    obtain ⟨Dc, bs, i, rfl, rfl, EW1, EW2, hk, hcnt, hi, hlow, hln, hσ2, hlen, hq⟩ := h
    have vf : Vis (wordX X x sg g cdg s H).env.scope "flags" := .inl l2
    refine (pss_cons (ps_set (X := (wordX X x sg g cdg s H).suite a ((a, oe) :: pn)) (pos' := p 11) (pos := p 15) (i := 3) nd rfl (.inl l2) (pe_flags (Y := wordX X x sg g cdg s H) (p := p 12) (pe := p 13) (pos := p 14) (hfl _ rfl rfl rfl rfl rfl) EW1 hz hf' g1 hd (j := k) ⟨(hr s).dp, (hr s).un⟩ rfl (.inl l1) bs hk (by rw [sizeLine_eq]; omega)) (by rfl) (.inr l2))
      (pss_one (ps_if (pos := p 34) (PW.pt (pw_and (pos := p 26) (pt_cmp (pos := p 21) (pc_eqI (pe_bm (apos := p 17) (cpos := p 19) F.plainAttrs_list F.slot_list_count F.type_list_count mt_cntF (pe_var (pos := p 16) (i := 3) rfl vf) (pa_cons (pe_bl (b := true) (j := j 4) (pos := p 18)) pa_nil) rfl rfl e1) (pe_int (i := 1) (j := j 5) (pos := p 20)))) (pw_and1 (pt_val (pe_callB (p := p 22) (pos := p 25) (call_isE2 (X := (wordX X x sg g cdg s H).suite a ((a, oe) :: pn)) List.mem_cons_self EW1 hz hf') g2 m2 boot_isinstance (pa_cons (pe_var (pos := p 23) (i := 2) rfl (.inl l1)) (pa_cons (pe_bltn (pos := p 24) (v := V.ty "ValueError") g3 m3 PyProof.Rows.Boot.«ValueError» rfl) pa_nil)))))))
        (pss_one (ps_set (pos' := p 27) (pos := p 33) (i := 1) nd rfl (.inl l0) (pe_tup (pos := p 32) (x1 := j 7) (pa_cons (pe_bm (apos := p 29) (cpos := p 31) F.plainAttrs_list F.slot_list_index F.type_list_index mt_index (pe_var (pos := p 28) (i := 3) rfl vf) (pa_cons (pe_bl (b := true) (j := j 6) (pos := p 30)) pa_nil) rfl rfl e2) pa_nil)) (by rfl) (.inr l0)))
        pss_nil))).run pins s' σ H' D I ?_
    refine ⟨hσ2, fun L hL => ?_⟩
    have h3 : (σ.set 3 (some (V.ref L)))[3]? = some (some (V.ref L)) := List.getElem?_set_self (by omega)
    have h2 : (σ.set 3 (some (V.ref L)))[2]? = some (some (V.ref a)) := by rw [List.getElem?_set_ne (by decide)]; exact hσ2
    have hflat : (bs.map V.bl).all flatV = true := List.all_eq_true.mpr fun v hv => by
      obtain ⟨b, _, rfl⟩ := List.mem_map.mp hv
      rfl
    refine ⟨_, h3, .inl ⟨rfl, _, .inl (.inl upd_same)⟩, L, bs.map V.bl, .bl true, rfl, rfl, .inl (.inl upd_same), rfl, hflat, ?_⟩
    refine ⟨_, 1, rfl, rfl, _, rfl, ?_⟩
    rw [cnt_bl, hcnt]
    refine iteT ?_
    refine ⟨_, h2, _, _, true, rfl, fun u hu => hu, EW2, true, rfl, ?_⟩
    refine iteT ?_
    refine ⟨_, h3, .inl ⟨rfl, _, .inl (.inl upd_same)⟩, L, bs.map V.bl, .bl true, i, .bl true, rfl, rfl, .inl (.inl upd_same), rfl, hflat, by rw [List.getElem?_map, hi]; rfl, rfl, fun m z' hm hz' => ?_, ?_⟩
    · rw [List.getElem?_map] at hz'
      cases e : bs[m]? with
      | none => rw [e] at hz'; cases hz'
      | some b =>
        rw [e] at hz'
        cases hz'
        rw [hlow m b hm e]
        rfl
    · exact ⟨by rw [sizeLine_eq]; show 1 ≤ _; omega, fun p' hp' => hq L p' hL hp'⟩
  have v1 : Vis (wordX X x sg g cdg s H).env.scope "found" := .inl l0
  refine ⟨_, pss_cons (ps_set (X := wordX X x sg g cdg s H) (pos' := p 0) (pos := p 3) (i := 1) nd rfl (.inl l0) (pe_tup (pos := p 2) (x1 := j 1) (pa_cons (pe_str (x := "other") (j := j 0) (pos := p 1)) pa_nil)) (by rfl) (.inr l0))
    (pss_cons (ps_try_as (X := wordX X x sg g cdg s H) (np := p 10) (pos' := p 35) (pos := p 36) (n := "error") (c := .ref HE) (i := 2) (Wout := fun _ _ _ _ => False)
      (tb := fun W D σ H => ∃ Ech : XK, (∀ cls d σ' H', Ech cls d H' → σ'.length = wordN.length → W cls d σ' H') ∧ σ[0]? = some (some (.ref f)) ∧ H c' = some (LamX.CodeO c' q) ∧
        tl Ech H (fun v H2 => ([V.str "told", v] : List V).length ≤ sizeLine ∧ ∀ p, H2 p = none → D.nx (σ.set 1 (some (.ref p))) (upd H2 p (.tup [.str "told", v]))))
      rfl rfl nd rfl l1 ⟨g0, hdh, .inl m0⟩ LamX.takes0 (fun W pn xe tk _ => ⟨fun pins s' σ H' D I h' => ?_⟩) hsuite) (pss_one (ps_ret (pe_var (pos := p 37) (i := 1) rfl v1)))), ?_⟩
  · obtain ⟨Ech, hW, h1, h2, h3⟩ := h'
    have hp := act (fun c d σ H => σ.length = wordN.length → W c d σ H) pn xe Ech (p 6) (p 7) (takes_len tk) (fun cls d σ' H' h => hW cls d σ' H' h)
    exact (pss_one (ps_set (X := (wordX X x sg g cdg s H).tr pn xe) (pos' := p 4) (pos := p 9) (i := 1) nd rfl (.inl l0) (pe_tup (pos := p 8) (x1 := j 3) (pa_cons (pe_str (x := "told") (j := j 2) (pos := p 5)) (pa_cons hp pa_nil))) (by rfl) (.inr l0))).run pins s' σ H' D I ⟨h1, h2, h3⟩
  · refine ⟨by rw [sizeLine_eq]; show 1 ≤ _; omega, fun T0 hT0 => ?_⟩
    have hc0 : upd H T0 (.tup [.str "other"]) c' = some (LamX.CodeO c' q) := by rw [upd_ne (ne_of_none hc hT0)]; exact hc
    refine ⟨fun cls dd H' => ∃ c i, cls = .ref (B.ca c) ∧ dd = none ∧ idx c = some i ∧ ∀ L bs p, H' L = none → upd H' L (.lst bs) p = none → Q (.ref p) (upd (upd H' L (.lst bs)) p (.tup [.int (i : Nat)])), ?_, rfl, hc0, ?_⟩
    rotate_left
    · have t0 := hTT T0 hT0
      have e : (fun (v : V) (H' : Hp) => ∀ p, H' p = none → Q (.ref p) (upd H' p (.tup [.str "told", v]))) = (fun v H2 => ([V.str "told", v] : List V).length ≤ sizeLine ∧ ∀ p, H2 p = none → tRet (tVar 1) { nx := fun _ H' => Q .non H', rt := Q } (((L2.start wordN [V.ref f]).set 1 (some (.ref T0))).set 1 (some (.ref p))) (upd H2 p (.tup [.str "told", v]))) := by
        funext v H2
        apply propext
        refine ⟨fun h => ⟨by rw [sizeLine_eq]; show 2 ≤ _; omega, fun p hp => ⟨_, rfl, h p hp⟩⟩, fun ⟨_, h⟩ p hp => ?_⟩
        obtain ⟨v', e', q'⟩ := h p hp
        cases e'
        exact q'
      rw [e] at t0
      exact t0
    · rintro cls dd σ' H' ⟨c, i, rfl, rfl, hi, hq⟩ hlen
      have ew := hE c i hi
      obtain ⟨bs, hk, hcnt, hbi, hlow, hln⟩ := ew.flags
      refine ⟨true, ew.exm, fun _ a ha => ⟨B.ca c, bs, i, rfl, rfl, ew.exc, ew.ve, hk, hcnt, hbi, hlow, hln, List.getElem?_set_self (by rw [hlen]; decide), by rw [List.length_set, hlen]; rfl, fun L p' hL hp' => ?_⟩, fun h => nomatch h⟩
      refine ⟨_, ?_, hq L (bs.map V.bl) p' hL hp'⟩
      rw [List.getElem?_set_ne (by decide), List.getElem?_set_self]
      rw [List.length_set, List.length_set, hlen]
      decide
end Py
end
section
set_option Elab.async false
set_option linter.all false
set_option maxRecDepth 100000
set_option maxHeartbeats 4000000
/-! Py over HandS: what the head tells, as Bools. -/
namespace Py
open PySem PySem.Spec PyProof.Rows L2 He

/-- a def of the text: its name, its statement, its names, the interpreter's text; may it make lambdas -/
structure DefI where
  x : Str
  st : Stmt
  N : List Str
  fi : Fn
  ws : Bool
def DefI.ps (d : DefI) : List Str := d.N.take d.fi.np
/-- a word: its def, the flags' def, the flags' classes, what it catches -/
structure WordI where
  x : Str
  st : Stmt
  wf : Str
  fst : Stmt
  cs : List Str
  he : Str
structure LawI where
  defs : List DefI
  gls : List (Str × D)
  errs : List Str
  base : Str
  ist : Stmt
  words : List WordI

/-! ### constants -/
def valB (K : PySem.W.Frag) : Nat → Value → D → Bool
  | 0, _, _ => false
  | _ + 1, .none, .non => true
  | _ + 1, .bool b, .bl c => b == c
  | _ + 1, .int i _, .int j => decide (i = j)
  | _ + 1, .str x _, .str s => decide (x.cps.toList = s)
  | n + 1, .ref a, .tup ds => (match K.lookup a with
    | some ⟨.type c, _, .seq its _, _⟩ => decide (c = "tuple") && decide (its.size ≤ sizeLine) && valsB K n its.toList ds
    | _ => false)
  | _ + 1, _, _ => false
where valsB (K : PySem.W.Frag) (n : Nat) : List Value → List D → Bool
  | [], [] => true
  | u :: us, d :: ds => valB K n u d && valsB K n us ds
  | _, _ => false
def glB (K : PySem.W.Frag) (x : Str) (d : D) : Bool := match PySem.W.nsIn K mainGlobals x with
  | some (some u) => valB K 8 u d
  | _ => false
theorem valB_ok {B : Tb} : ∀ {n : Nat} {u : Value} {d : D}, valB B.K n u d = true → ∃ v, L2.RelV v u ∧ ∀ F, Rep B F v d := by
  intro n
  induction n with
  | zero => intro u d h; simp [valB] at h
  | succ n ih =>
    have ihs : ∀ {us : List Value} {ds : List D}, valB.valsB B.K n us ds = true → ∃ vs, Vals vs us ∧ ∀ F, RepL B F vs ds := by
      intro us
      induction us with
      | nil => intro ds h; cases ds with
        | nil => exact ⟨[], .nil, fun F => .nil⟩
        | cons _ _ => simp [valB.valsB] at h
      | cons u us ihu =>
        intro ds h
        cases ds with
        | nil => simp [valB.valsB] at h
        | cons d ds =>
          simp only [valB.valsB, Bool.and_eq_true] at h
          obtain ⟨v, h1, h2⟩ := ih h.1
          obtain ⟨vs, h3, h4⟩ := ihu h.2
          exact ⟨v :: vs, .cons h1 h3, fun F => .cons (h2 F) (h4 F)⟩
    intro u d h
    unfold valB at h
    split at h
    · contradiction
    · exact ⟨.non, rfl, fun F => .non⟩
    · rename_i b c
      have e := eq_of_beq h
      subst e
      exact ⟨.bl _, rfl, fun F => .bl _⟩
    · have e := of_decide_eq_true h
      subst e
      exact ⟨.int _, ⟨_, rfl⟩, fun F => .int _⟩
    · have e := of_decide_eq_true h
      exact ⟨.str _, ⟨_, rfl⟩, fun F => str_rep _ e⟩
    · rename_i m a ds hm
      cases hm
      split at h
      · rename_i c od its k sl hk
        simp only [Bool.and_eq_true, decide_eq_true_eq] at h
        obtain ⟨⟨rfl, h2⟩, h3⟩ := h
        obtain ⟨vs, r1, r2⟩ := ihs h3
        exact ⟨.ref a, rfl, fun F => .tup (.inr ⟨_, its, k, hk, rfl, rfl, h2, r1⟩) (r2 F)⟩
      · contradiction
    · contradiction

/-! ### error classes -/
def oexB (K : PySem.W.Frag) (C : Addr) : Bool := (match K.lookup C with
  | some ⟨.type c, _, .cls ⟨_, _, .ref C' :: bm, _, _, hd, _, _, _, _, del⟩, ⟨[_, _, _, _, some (.builtin n), _]⟩⟩ => decide (c = "type") && decide (C' = C) && hd && !del && decide (n = "ValueError.__new__") && PySem.HandSPX.refsVE bm
  | _ => false) && eqO (PySem.W.findIn K (.ref C) "__setattr__") (some (some (.builtin "object.__setattr__"))) && decide (PySem.W.subIn K (.ref C) (.type "BaseException") = some true) && decide (PySem.W.typeIn K (.ref C) = some (.type "type")) && PySem.W.keepIn K (.ref C)
theorem oexB_ok {K : PySem.W.Frag} {C : Addr} (h : oexB K C = true) : OexC K C := by
  unfold oexB at h
  simp only [Bool.and_eq_true, decide_eq_true_eq] at h
  obtain ⟨⟨⟨⟨h1, h2⟩, h3⟩, h4⟩, h5⟩ := h
  refine ⟨?_, eqO_ok h2, h3, h4, h5⟩
  split at h1
  · rename_i c od n1 n2 C' bm n4 n5 hd n7 n8 n9 n10 del k0 k1 k2 k3 n k5 hk
    simp only [Bool.and_eq_true, decide_eq_true_eq, Bool.not_eq_true'] at h1
    obtain ⟨⟨⟨⟨⟨rfl, rfl⟩, rfl⟩, rfl⟩, rfl⟩, h6⟩ := h1
    exact ⟨_, _, _, _, bm, _, _, _, _, _, _, _, _, _, _, hk, h6⟩
  · contradiction
def excCB (K : PySem.W.Frag) (D : Addr) : Bool := eqO (PySem.W.findIn K (.ref D) "__getattribute__") (some (some (.builtin "BaseException.__getattribute__"))) && eqO (PySem.W.findIn K (.ref D) "__getattr__") (some none) && decide (PySem.W.subIn K (.ref D) (.type "BaseException") = some true) &&
  PySem.W.hasDictIn K D && eqO (PySem.W.findIn K (.ref D) "__class__") (some (some (.builtin "object.__class__"))) && eqO (PySem.W.specialIn K (.builtin "object.__class__") "__get__") (some (some (.builtin "getset_descriptor.__get__"))) &&
  decide (PySem.W.takesIn K (.builtin "object.__class__") = some true) && decide (PySem.W.mroIn K D (.type "object") = some true)
theorem excCB_ok {K : PySem.W.Frag} {D : Addr} (h : excCB K D = true) : ExcC K D := by
  unfold excCB at h
  simp only [Bool.and_eq_true, decide_eq_true_eq] at h
  obtain ⟨⟨⟨⟨⟨⟨⟨h1, h2⟩, h3⟩, h4⟩, h5⟩, h6⟩, h7⟩, h8⟩ := h
  exact ⟨eqO_ok h1, eqO_ok h2, h3, h4, eqO_ok h5, eqO_ok h6, h7, h8⟩
/-- an error's class -/
def errB (K : PySem.W.Frag) (base x : Str) : Bool := eqO (PySem.W.nsIn K mainGlobals x) (some (some (.ref (ga K x)))) && oexB K (ga K x) && eqO (PySem.W.findIn K (.ref (ga K x)) "__init__") (some (some (.ref (ma K (ga K base) "__init__")))) &&
  decide (PySem.W.typeIn K (.ref (ma K (ga K base) "__init__")) = some (.type "function")) && !(x == ("__debug__" : Str))
/-! ### words -/
def kitLB (K : PySem.W.Frag) (D : Addr) : List Str → List Bool → Bool
  | [], [] => true
  | c :: cs, b :: bs => decide (PySem.W.kitOne K (.ref D) (.ref (ga K c)) = some b) && kitLB K D cs bs
  | _, _ => false
theorem kitLB_ok {K : PySem.W.Frag} {D : Addr} : ∀ {cs : List Str} {bs : List Bool}, kitLB K D cs bs = true → KitL K D (ga K) cs bs
  | [], [], _ => trivial
  | c :: cs, b :: bs, h => by
    simp only [kitLB, Bool.and_eq_true, decide_eq_true_eq] at h
    exact ⟨h.1, kitLB_ok h.2⟩
  | [], _ :: _, h => by simp [kitLB] at h
  | _ :: _, [], h => by simp [kitLB] at h
/-- which flag an error has: the place of its class among cs -/
def flagOf (cs : List Str) (x : Str) : Option Nat := if (cs.map fun c => decide (c = x)).count true = 1 then cs.findIdx? fun c => decide (c = x) else none
def wordEB (K : PySem.W.Frag) (w : WordI) (x : Str) : Bool := match flagOf w.cs x with
  | none => true
  | some _ => decide (PySem.W.exmOne K (.ref (ga K x)) (.ref (ga K w.he)) = some true) && excCB K (ga K x) && decide (PySem.W.kitOne K (.ref (ga K x)) (.type "ValueError") = some true) && kitLB K (ga K x) w.cs (w.cs.map fun c => decide (c = x))
theorem wordEB_ok {K : PySem.W.Frag} {w : WordI} {x : Str} {i : Nat} (h : wordEB K w x = true) (hi : flagOf w.cs x = some i) (hl : w.cs.length ≤ 1000) : ErrW K (ga K x) (ga K w.he) w.cs (ga K) i := by
  unfold wordEB at h
  rw [hi] at h
  simp only [Bool.and_eq_true, decide_eq_true_eq] at h
  obtain ⟨⟨⟨h1, h2⟩, h3⟩, h4⟩ := h
  unfold flagOf at hi
  split at hi
  · rename_i hc
    refine ⟨h1, excCB_ok h2, h3, _, kitLB_ok h4, hc, ?_, fun m b hm hb => ?_, by rw [List.length_map]; exact hl⟩
    · obtain ⟨hlt, h5, _⟩ := List.findIdx?_eq_some_iff_getElem.mp hi
      rw [List.getElem?_map, List.getElem?_eq_getElem hlt, Option.map_some, h5]
    · obtain ⟨hlt, _, h6⟩ := List.findIdx?_eq_some_iff_getElem.mp hi
      have h7 := h6 m hm
      rw [List.getElem?_map, List.getElem?_eq_getElem (Nat.lt_trans hm hlt), Option.map_some] at hb
      cases hb
      simpa using h7
  · cases hi
def wordB (K : PySem.W.Frag) (errs : List Str) (w : WordI) : Bool := errs.all (wordEB K w) && w.cs.all (fun c => eqO (PySem.W.nsIn K mainGlobals c) (some (some (.ref (ga K c))))) && eqO (PySem.W.nsIn K mainGlobals w.he) (some (some (.ref (ga K w.he))))
def veiB (K : PySem.W.Frag) : Bool := match PySem.W.findCls K (.type "ValueError") (.type "type") "__init__" with
  | some (.val (.builtin b)) => decide (b = "ValueError.__init__")
  | _ => false
theorem veiB_ok {K : PySem.W.Frag} (h : veiB K = true) : PySem.W.findCls K (.type "ValueError") (.type "type") "__init__" = some (.val (.builtin "ValueError.__init__")) := by
  unfold veiB at h
  split at h
  · rename_i b e
    rw [e, of_decide_eq_true h]
  · contradiction
/-- all that is told beside the defs -/
def exB (L : LawI) (K : PySem.W.Frag) : Bool :=
  bnames.all (fun x => eqO (PySem.W.nsIn K mainGlobals x) (some none)) && eqO (PySem.W.nsIn K mainGlobals "ValueError") (some none) && L.gls.all (fun p => glB K p.1 p.2) && L.errs.all (errB K L.base) && L.words.all (wordB K L.errs) &&
    (L.errs.isEmpty || veiB K) &&
    decide ((L.defs.filter (·.ws)).map (fun d => tabOf K (codeOf K (d.x, none)))).Nodup
end Py
end
section
set_option Elab.async false
set_option linter.all false
set_option maxRecDepth 100000
set_option maxHeartbeats 4000000
/-! Py over HandS: all defs of a law keep what the interpreter tells. -/
namespace Py
open PySem PySem.Spec PyProof.Rows L2 He

def LawI.prg (L : LawI) : Prg where
  cn := fun _ => ""
  fn := fun f => (L.defs.map (·.x)).getD f ""
  gn := fun g => (L.gls.map (·.1)).getD g ""
  nm := fun _ => ""
  en := fun c => L.errs.getD c ""
  wn := fun f => (L.words.map (·.x)).getD f ""
  nf := L.defs.length
  ng := L.gls.length
  ne := L.errs.length
  nw := L.words.length
  cls := []
def LawI.cfg (L : LawI) (call : Nat → List O → CRes) : Cfg where
  ct := fun _ => []
  gl := fun g => (L.gls.map (·.2)).getD g .non
  call := call
  flag := fun f c => match L.words[f]?, L.errs[c]? with
    | some w, some x => flagOf w.cs x
    | _, _ => none
def LawI.run (L : LawI) : Nat → Nat → List O → CRes
  | 0, _, _ => .stuck
  | n + 1, f, os => match L.defs[f]? with
    | some d => callF (L.cfg (L.run n)) d.fi os
    | none => .stuck
abbrev cP (K : PySem.W.Frag) (x : Str) : Addr × Addr := cT K (x, none)
def LawI.tb (L : LawI) (K : PySem.W.Frag) : Tb where
  K := K
  ca := fun c => ga K (L.errs.getD c "")
  cf := fun _ => []
  nm := fun _ => ""
  T := (L.defs.filter (·.ws)).map fun d => ((cP K d.x).2, d.x ++ ".<locals>." ++ "<lambda>")
  cls := []

/-! ### what is checked of the text -/
def scB (N ps : List Str) (sc : Scope) : Bool := decide (sc.kind = .function) && !sc.isCoroutine && !sc.isGenerator && decide N.Nodup && decide (N.take ps.length = ps) &&
  ps.all (fun x => match sc.names.lookup x with | some .local => true | some .cell => true | _ => false) && sc.names.all fun y => !decide (y.2 = .free)
theorem scB_ok {N ps : List Str} {sc : Scope} (h : scB N ps sc = true) : FnScope N ps sc := by
  unfold scB at h
  simp only [Bool.and_eq_true, decide_eq_true_eq, Bool.not_eq_true', List.all_eq_true, decide_eq_false_iff_not] at h
  obtain ⟨⟨⟨⟨⟨⟨h1, h2⟩, h3⟩, h4⟩, h5⟩, h6⟩, h7⟩ := h
  refine ⟨h1, h2, h3, h4, h5, fun x hx => ?_, h7⟩
  have := h6 x hx
  split at this
  · rename_i e; exact .inl e
  · rename_i e; exact .inr e
  · cases this
abbrev BindOk (x q : Str) (st : Stmt) (ps : List Str) : Prop := ∀ (kV doc pm : Value) (an : Option Addr) (cdv ct : Value) (us : List Value), us.length = ps.length → bindArgs (PySem.W.fnOf x q (defArgs st) (defBody st) (defScope st) .none kV doc pm an cdv ct) ⟨us, []⟩ = pure (ps.zip us)
structure DefS (L : LawI) (d : DefI) : Prop where
  chk : chkSs L.prg d.N ⟨defScope d.st, fun _ => true, d.ws⟩ d.fi.prot d.fi.body (defBody d.st) = true
  sc : (scB d.N d.ps (defScope d.st) && decide (d.N.length = d.fi.ns) && decide (d.fi.np ≤ d.fi.ns) && !(d.x == ("__debug__" : Str))) = true
  bnd : BindOk d.x d.x d.st d.ps
structure WordS (w : WordI) : Prop where
  body : ∃ p j, defBody w.st = wordBody w.he w.wf p j ∧ ((p 17).endLine == (p 19).line) = true ∧ ((p 29).endLine == (p 31).line) = true
  sc : (scB wordN ["call"] (defScope w.st) && decide ((defScope w.st).names.lookup ("found" : Str) = some .local) && decide ((defScope w.st).names.lookup ("error" : Str) = some .local) && decide ((defScope w.st).names.lookup ("flags" : Str) = some .local) &&
    decide ((defScope w.st).names.lookup w.he = some .globalImplicit) && decide ((defScope w.st).names.lookup w.wf = some .globalImplicit) && decide ((defScope w.st).names.lookup ("isinstance" : Str) = some .globalImplicit) &&
    decide ((defScope w.st).names.lookup ("ValueError" : Str) = some .globalImplicit) && decide ((defScope w.st).names.lookup ("call" : Str) = some .local) && !(w.wf == ("__debug__" : Str)) && !(w.he == ("__debug__" : Str)) && decide (w.cs.length ≤ 1000)) = true
  bnd : BindOk w.x w.x w.st ["call"]
  fbody : ∃ es p1 p2, defBody w.fst = [.Return (some (.List es p1)) p2] ∧ flagB (defScope w.fst) w.cs es = true
  fsc : scB ["error"] ["error"] (defScope w.fst) = true
  fbnd : BindOk w.wf w.wf w.fst ["error"]
structure InitS (L : LawI) : Prop where
  body : ∃ p1 p2 p3 p4 p5, defBody L.ist = [.Expr (.Call (.Attribute (.Name "ValueError" p1) "__init__" p2) [.Name "self" p3] [] p4) p5] ∧ (p2.endLine == p4.line) = true
  sc : (scB ["self"] ["self"] (defScope L.ist) && decide ((defScope L.ist).names.lookup ("ValueError" : Str) = some .globalImplicit)) = true
  bnd : BindOk "__init__" (L.base ++ ".__init__") L.ist ["self"]
structure LawS (L : LawI) : Prop where
  defs : ∀ d ∈ L.defs, DefS L d
  words : ∀ w ∈ L.words, WordS w
  init : L.errs ≠ [] → InitS L
  gld : (L.gls.all fun p => !(p.1 == ("__debug__" : Str))) = true

/-! ### what is told of the state -/
abbrev FnP (K : PySem.W.Frag) (x : Str) (st : Stmt) (f : Addr) (fd : FuncData) : Prop := FunD K x x (defArgs st) (defBody st) (defScope st) [] [] f fd
structure LawF (L : LawI) (K : PySem.W.Frag) (mg : Str → Option Value) (base : Heap) : Prop where
  KX : K.In base
  G : base.Ns mainGlobals mg
  ex : exB L K = true
  defs : ∀ d ∈ L.defs, mg d.x = some (.ref (ga K d.x)) ∧ ∃ fd, FnP K d.x d.st (ga K d.x) fd
  words : ∀ w ∈ L.words, mg w.x = some (.ref (ga K w.x)) ∧ mg w.wf = some (.ref (ga K w.wf)) ∧ (∃ fd, FnP K w.x w.st (ga K w.x) fd) ∧ ∃ fd, FnP K w.wf w.fst (ga K w.wf) fd
  init : L.errs ≠ [] → ∃ fd, FunD K "__init__" (L.base ++ ".__init__") (defArgs L.ist) (defBody L.ist) (defScope L.ist) [] [] (ma K (ga K L.base) "__init__") fd
  tab : ∀ d ∈ L.defs, d.ws = true → LamX.TabB base mg (cP K d.x).1 (cP K d.x).2
theorem fun_of {K : PySem.W.Frag} {x q : Str} {st : Stmt} {f : Addr} {fd : FuncData} (F : FunD K x q (defArgs st) (defBody st) (defScope st) [] [] f fd) : L2.Fun K x q st f fd := by
  obtain ⟨⟨oc, od, dV, kV, doc, pm, an, cdv, ct, osl, rfl, lk, hcd, hD, hK⟩, kp⟩ := F
  rcases hD with ⟨_, rfl⟩ | ⟨e, _⟩
  · exact ⟨⟨oc, od, kV, doc, pm, an, cdv, ct, osl, rfl, lk, hcd⟩, kp⟩
  · exact absurd rfl e
section
variable {L : LawI} {P : Program} {w : World} {K : PySem.W.Frag} {mg : Str → Option Value} {base : Heap}
structure ExF (L : LawI) (K : PySem.W.Frag) : Prop where
  bl : ∀ x ∈ bnames, PySem.W.nsIn K mainGlobals x = some none
  ve : PySem.W.nsIn K mainGlobals "ValueError" = some none
  gls : ∀ p ∈ L.gls, glB K p.1 p.2 = true
  errs : ∀ x ∈ L.errs, errB K L.base x = true
  words : ∀ w ∈ L.words, wordB K L.errs w = true
  vei : L.errs ≠ [] → PySem.W.findCls K (.type "ValueError") (.type "type") "__init__" = some (.val (.builtin "ValueError.__init__"))
  nd : ((L.defs.filter (·.ws)).map fun d => tabOf K (codeOf K (d.x, none))).Nodup
theorem exF_of (h : exB L K = true) : ExF L K := by
  unfold exB at h
  simp only [Bool.and_eq_true, decide_eq_true_eq, List.all_eq_true, Bool.or_eq_true] at h
  obtain ⟨⟨⟨⟨⟨⟨h1, h2⟩, h3⟩, h4⟩, h5⟩, h6⟩, h7⟩ := h
  refine ⟨fun x hx => eqO_ok (h1 x hx), eqO_ok h2, h3, h4, h5, fun hn => ?_, h7⟩
  rcases h6 with h6 | h6
  · exact absurd (List.isEmpty_iff.mp h6) hn
  · exact veiB_ok h6
theorem eval_mcall {o : Expr} {m : Str} {apos pos : Pos} {env : PySem.Env} {args : List Expr} (hf : methodCallForm (args.length + ([] : List Keyword).length) (backTo pos (starEach args env)) (backToKw pos (keywordEach [] env)) = true) (hl : (apos.endLine == pos.line) = true) (hb : attributeBase o m env (eval o env) = eval o env) :
    eval (.Call (.Attribute o m apos) args [] pos) env = (do
      let ov ← eval o env
      standAt apos.atName
      let (f, first) ← holding [ov] (getMethod ov m (plainOf o env))
      callWith pos f first (backTo pos (starEach args env)) (backToKw pos (keywordEach [] env))) := by
  show (do
    let ov ← attributeBase o m env (eval o env)
    standAt apos.atName
    methodCall o m apos pos env ov (args.length + ([] : List Keyword).length) (backTo pos (starEach args env)) (backToKw pos (keywordEach [] env))) = _
  rw [hb]
  congr 1
  funext ov
  congr 1
  funext _
  exact mcall_line hf hl
theorem init_ok {q : Str} {params : Arguments} {p1 p2 p3 p4 p5 : Pos} {sc : Scope} {f C : Addr} {fd : FuncData} (F : FunD K "__init__" q params [.Expr (.Call (.Attribute (.Name "ValueError" p1) "__init__" p2) [.Name "self" p3] [] p4) p5] sc [] [] f fd) (S : FnScope ["self"] ["self"] sc)
    (hm : mg "ValueError" = none) (vV : PySem.W.findCls K (.type "ValueError") (.type "type") "__init__" = some (.val (.builtin "ValueError.__init__"))) (gl : sc.names.lookup ("ValueError" : Str) = some .globalImplicit) (T : OexC K C) (hl : (p2.endLine == p4.line) = true) :
    FnOk P w K mg base (L2.CX P w) 1 f fd ["self"] (fun vs H Q _ => ∃ a, vs = [.ref a] ∧ H a = some (exo a C none) ∧ Q .non H) := by
  refine F.ok S (fun vs H Q E h => ?_) (fun cdv A outer s H vs Q E hr h => ⟨_, pss_one (ps_expr (pe_veinit (pl := plainOf (.Name "ValueError" p1) (envOfC q sc s.heap.objs.size f cdv)) gl hm vV (pa_cons (pe_var (i := 0) rfl ?_) pa_nil) (eval_mcall rfl hl rfl))), ?_⟩)
  · obtain ⟨a, rfl, _⟩ := h
    rfl
  · rcases S.par "self" List.mem_cons_self with k | k
    · exact .inl k
    · exact .inr (.inl k)
  · obtain ⟨a, rfl, ha, q⟩ := h
    exact ⟨_, rfl, a, C, [], rfl, by simp, T, ha, q⟩
end
end Py
end
section
set_option Elab.async false
set_option linter.all false
set_option maxRecDepth 100000
set_option maxHeartbeats 4000000
/-! Py over HandS: all defs, by the depth of calls. -/
namespace Py
open PySem PySem.Spec PyProof.Rows L2 He
section
variable {L : LawI} {P : Program} {w : World} {K : PySem.W.Frag} {mg : Str → Option Value} {base : Heap}
/-- a def's promise at the depth n -/
def AllOk (L : LawI) (P : Program) (w : World) (K : PySem.W.Frag) (mg : Str → Option Value) (base : Heap) (n : Nat) : Prop :=
  ∀ f d fd, L.defs[f]? = some d → FnP K d.x d.st (ga K d.x) fd → FnOk P w K mg base (L2.CX P w) (3 * n + 5) (ga K d.x) fd d.ps (spI (L.tb K) (L.run n f))
theorem getD_map {α β : Type} {l : List α} {g : α → β} {i : Nat} {a : α} {b : β} (h : l[i]? = some a) : (l.map g).getD i b = g a := by
  rw [List.getD_eq_getElem?_getD, List.getElem?_map, h]
  rfl
theorem bind_of {x q : Str} {st : Stmt} {f : Addr} {fd : FuncData} {ps : List Str} (F : FunD K x q (defArgs st) (defBody st) (defScope st) [] [] f fd) (b : BindOk x q st ps) : L2.Binds K fd ps [] := F.bindsN b
/-- where a body of a def stands -/
theorem sk_of (LS : LawS L) (n : Nat) (X : Cx) (F : LawF L X.K X.mg X.base) (ok : AllOk L X.prog X.w X.K X.mg X.base n) (hc : X.calm = true) (hr : Room (3 * n + 5) X.A) (nd : X.N.Nodup) : Sk (L.tb X.K) L.prg (L.cfg (L.run n)) X := by
  have ex := exF_of F.ex
  refine ⟨⟨rfl, hc, hr.mono (Nat.zero_le _), nd, fun x hx => PySem.W.mg_none_of F.KX F.G (ex.bl x hx), fun c hc => (nomatch hc), fun h => absurd rfl h⟩, ⟨fun c hc => (nomatch hc)⟩, fun c hc => (nomatch hc), fun g hg => ?_, fun f hf => ?_, fun c hc => ?_⟩
  · have hg : g < L.gls.length := hg
    have hp := List.getElem?_eq_getElem hg
    have hm := List.getElem_mem hg
    have h := ex.gls _ hm
    unfold glB at h
    split at h
    · rename_i u hu
      obtain ⟨v, r1, r2⟩ := valB_ok (B := L.tb X.K) h
      refine ⟨u, v, ?_, r1, fun F => ?_, ?_⟩
      · show X.mg ((L.gls.map (·.1)).getD g "") = some u
        rw [getD_map hp]
        exact PySem.W.mg_of F.KX F.G hu
      · show Rep (L.tb X.K) F v ((L.gls.map (·.2)).getD g .non)
        rw [getD_map hp]
        exact r2 F
      · show ((L.gls.map (fun p : Str × D => p.1)).getD g ("" : Str) == ("__debug__" : Str)) = false
        rw [getD_map hp]
        simpa using (List.all_eq_true.mp LS.gld) _ hm
    · cases h
  · have hf : f < L.defs.length := hf
    have hp := List.getElem?_eq_getElem hf
    obtain ⟨hm, fd, FD⟩ := F.defs _ (List.getElem_mem hf)
    have e : L.prg.fn f = (L.defs[f]).x := getD_map hp
    refine ⟨3 * n + 5, ga X.K (L.defs[f]).x, fd, (L.defs[f]).ps, by rw [e]; exact hm, FD.kp, bind_of FD (LS.defs _ (List.getElem_mem hf)).bnd, hr, ok f _ fd hp FD⟩
  · have hc : c < L.errs.length := hc
    have hp := List.getElem?_eq_getElem hc
    have hm := List.getElem_mem hc
    have hne : L.errs ≠ [] := fun z => by rw [z] at hc; exact absurd hc (Nat.not_lt_zero _)
    have h := ex.errs _ hm
    unfold errB at h
    simp only [Bool.and_eq_true, decide_eq_true_eq, Bool.not_eq_true'] at h
    obtain ⟨⟨⟨⟨h1, h2⟩, h3⟩, h4⟩, h5⟩ := h
    have e : L.prg.en c = L.errs[c] := by
      show L.errs.getD c "" = _
      rw [List.getD_eq_getElem?_getD, hp]; rfl
    have e2 : (L.tb X.K).ca c = ga X.K (L.errs[c]) := congrArg (ga X.K) e
    obtain ⟨fd, FD⟩ := F.init hne
    obtain ⟨⟨p1, p2, p3, p4, p5, hb, hl⟩, hsc, bnd⟩ := LS.init hne
    simp only [Bool.and_eq_true, decide_eq_true_eq] at hsc
    rw [e, e2]
    refine ⟨h5, PySem.W.mg_of F.KX F.G (eqO_ok h1), oexB_ok h2, _, 1, fd, eqO_ok h3, h4, hr.mono (by omega), bind_of FD bnd, ?_⟩
    rw [hb] at FD
    exact init_ok FD (scB_ok hsc.1) (PySem.W.mg_none_of F.KX F.G ex.ve) (ex.vei hne) hsc.2 (oexB_ok h2) hl
theorem nodup_inj {α β : Type} {g : α → β} : ∀ {l : List α}, (l.map g).Nodup → ∀ {a b : α}, a ∈ l → b ∈ l → g a = g b → a = b
  | [], _, _, _, h, _, _ => nomatch h
  | x :: l, hn, a, b, ha, hb, e => by
    rw [List.map_cons, List.nodup_cons] at hn
    rcases List.mem_cons.mp ha with ha | ha
    · rcases List.mem_cons.mp hb with hb | hb
      · rw [ha, hb]
      · exact absurd (by rw [← ha, e]; exact List.mem_map_of_mem hb) hn.1
    · rcases List.mem_cons.mp hb with hb | hb
      · exact absurd (by rw [← hb, ← e]; exact List.mem_map_of_mem ha) hn.1
      · exact nodup_inj hn.2 ha hb e
theorem code_at {x : Str} {oc : Value} {od : Option Addr} {osl : Array (Option Value)} {params : Arguments} {body : List Stmt} {sc : Scope} {dV kV doc pm cdv ct : Value} {an : Option Addr} {q : Str}
    (lk : K.lookup (ga K x) = some ⟨oc, od, .func (PySem.W.fnOf x q params body sc dV kV doc pm an cdv ct), osl⟩) (hcd : PySem.W.codeIn K cdv q = true) : cdv = .ref (cP K x).1 := by
  obtain ⟨c, rfl⟩ := codeIn_ref hcd
  exact congrArg Value.ref (codeOf_eq (p := (x, none)) lk rfl).symm
/-- lambdas in a def of the law -/
theorem wd_of (LS : LawS L) (n : Nat) (X : Cx) (F : LawF L X.K X.mg X.base) (ok : AllOk L X.prog X.w X.K X.mg X.base n) (hc : X.calm = true) (hr : Room (3 * n + 7) X.A) (nd : X.N.Nodup) {d : DefI} (hd : d ∈ L.defs) (hw : d.ws = true) (hcode : X.env.code = .ref (cP X.K d.x).1) (hq : X.env.qual = d.x ++ ".<locals>.") :
    WdF (L.tb X.K) L.prg (L.cfg (L.run n)) X := by
  have ex := exF_of F.ex
  have hdf : d ∈ L.defs.filter (·.ws) := List.mem_filter.mpr ⟨hd, hw⟩
  refine ⟨⟨_, _, F.tab d hd hw, hcode, ?_, fun p hp e => ?_⟩, ⟨3 * n + 5, hr, fun A outer s H E scope f c' hr' => ?_⟩, fun f hf => ?_⟩
  · rw [hq]
    exact List.mem_map.mpr ⟨d, hdf, rfl⟩
  · obtain ⟨d', hd', rfl⟩ := List.mem_map.mp hp
    rw [hq, nodup_inj ex.nd hd' hdf e]
  · exact sk_of LS n (LamX.lamCx X A outer s H E scope f c') F ok rfl hr' nd
  · have hf : f < L.words.length := hf
    have hp := List.getElem?_eq_getElem hf
    have hm := List.getElem_mem hf
    obtain ⟨m1, m2, ⟨fd1, F1⟩, fd2, F2⟩ := F.words _ hm
    have W := LS.words _ hm
    have wb := ex.words _ hm
    have e : L.prg.wn f = (L.words[f]).x := getD_map hp
    rw [e]
    generalize hw0 : L.words[f] = w0 at *
    obtain ⟨⟨pp, jj, hbody, e1, e2⟩, hsc, hbnd, ⟨es, q1, q2, hfb, hfl⟩, hfs, hfbnd⟩ := W
    simp only [Bool.and_eq_true, decide_eq_true_eq, Bool.not_eq_true'] at hsc
    obtain ⟨⟨⟨⟨⟨⟨⟨⟨⟨⟨⟨s1, s2⟩, s3⟩, s4⟩, s5⟩, s6⟩, s7⟩, s8⟩, s9⟩, s10⟩, s11⟩, s12⟩ := hsc
    unfold wordB at wb
    simp only [Bool.and_eq_true, List.all_eq_true] at wb
    obtain ⟨⟨wb1, wb2⟩, wb3⟩ := wb
    have b1 := bind_of F1 hbnd
    have b2 := bind_of F2 hfbnd
    obtain ⟨⟨oc, od, dV, kV, doc, pm, an, cdv, ct, osl, rfl, lk, hcd, _, _⟩, kp⟩ := F1
    obtain ⟨⟨oc2, od2, dV2, kV2, doc2, pm2, an2, cdv2, ct2, osl2, rfl, lk2, hcd2, _, _⟩, kp2⟩ := F2
    refine ⟨ga X.K w0.x, _, _, _, dV, kV, doc, pm, cdv, ct, oc, an, od, osl, wordN, "call", m1, kp, lk, hcd, b1, scB_ok s1, rfl, .inl s9, by decide, by decide, fun q => ?_⟩
    rw [hbody]
    refine word_gives (cs := w0.cs) (ad := ga X.K) (HE := ga X.K w0.he) (k := 3 * n + 5) s10 s11 s2 s3 s4 s5 s6 s7 s8 (PySem.W.mg_of F.KX F.G (eqO_ok wb3)) (PySem.W.mg_none_of F.KX F.G (ex.bl _ (by decide))) (PySem.W.mg_none_of F.KX F.G ex.ve) e1 e2 ?_ ?_ ?_ q
    · intro Z z1 z2 z3 z4 z5
      rw [hfb] at lk2 b2
      refine ⟨⟨ga X.K w0.wf, _, es, q1, q2, defScope w0.fst, dV2, kV2, doc2, pm2, cdv2, ct2, oc2, an2, od2, osl2, by rw [z4]; exact m2, by rw [z3]; exact kp2, by rw [z3]; exact lk2, by rw [z3]; exact hcd2, by rw [z3]; exact b2, scB_ok hfs, hfl⟩, fun c hc => ?_, ?_⟩
      · rw [z4]
        exact PySem.W.mg_of F.KX F.G (eqO_ok (wb2 c hc))
      · rw [z4]
        exact PySem.W.mg_none_of F.KX F.G (ex.bl _ (by decide))
    · intro s
      exact L2H.roomH_of (Room.deeper hr _)
    · intro c i hi
      have hi : (match L.words[f]?, L.errs[c]? with
        | some w, some x => flagOf w.cs x
        | _, _ => none) = some i := hi
      rw [hp] at hi
      cases hx : L.errs[c]? with
      | none => rw [hx] at hi; cases hi
      | some xx =>
        rw [hx] at hi
        have e3 : (L.tb X.K).ca c = ga X.K xx := by
          show ga X.K (L.errs.getD c "") = _
          rw [List.getD_eq_getElem?_getD, hx]; rfl
        rw [e3]
        exact wordEB_ok (wb1 xx (List.mem_of_getElem? hx)) hi s12
theorem all_ok (LS : LawS L) (F : LawF L K mg base) : ∀ n, AllOk L P w K mg base n
  | 0, f, d, fd, hd, FD => by
    have no : ∀ vs H Q E, ¬ spI (L.tb K) (L.run 0 f) vs H Q E := fun vs H Q E ⟨_, _, _, h⟩ => h
    exact ⟨fun vs H Q E h => (no _ _ _ _ h).elim, fun A outer s H args us vs Q E _ _ _ _ h => (no _ _ _ _ h).elim⟩
  | n + 1, f, d, fd, hd, FD => by
    have ih := all_ok LS F n
    have hm := List.mem_of_getElem? hd
    have DS := LS.defs d hm
    have hsc := DS.sc
    simp only [Bool.and_eq_true, decide_eq_true_eq, Bool.not_eq_true'] at hsc
    obtain ⟨⟨⟨s1, s2⟩, s3⟩, s4⟩ := hsc
    obtain ⟨⟨oc, od, dV, kV, doc, pm, an, cdv, ct, osl, rfl, lk, hcd, _, _⟩, kp⟩ := FD
    have er : L.run (n + 1) f = callF (L.cfg (L.run n)) d.fi := by
      funext os
      show (match L.defs[f]? with
        | some d => callF (L.cfg (L.run n)) d.fi os
        | none => CRes.stuck) = _
      rw [hd]
    rw [er]
    have hps : d.ps.length = d.fi.np := by
      unfold DefI.ps
      rw [List.length_take]
      omega
    refine fn_py (k := 3 * n + 7) (N := d.N) lk hcd (scB_ok s1) hps s2 s3 DS.chk fun A outer s H E hr => ⟨?_, fun hw => ?_⟩
    · exact sk_of LS n (cxOf (L2.CX P w) P w K mg base d.N d.x (defScope d.st) (ga K d.x) cdv A outer s H E) F ih rfl (hr.mono (by omega)) (scB_ok s1).nd
    · exact wd_of LS n (cxOf (L2.CX P w) P w K mg base d.N d.x (defScope d.st) (ga K d.x) cdv A outer s H E) F ih rfl hr (scB_ok s1).nd hm hw (code_at lk hcd) rfl
end
end Py
end
section
set_option Elab.async false
set_option linter.all false
set_option maxRecDepth 100000
set_option maxHeartbeats 4000000
/-! Py over HandS: a law's end. -/
namespace Py
open PySem PySem.Spec PyProof.Rows L2 He
/-! ### what the head's Hook is asked -/
def LawI.fa (L : LawI) : List Fa := L.defs.map (fun d => .glo d.x) ++ L.words.flatMap fun w => [.glo w.x, .glo w.wf]
def defD (x : Str) (st : Stmt) : DefD := ⟨(x, none), x, x, defArgs st, defBody st, defScope st, [], []⟩
def initD (L : LawI) : DefD := ⟨(L.base, some "__init__"), "__init__", L.base ++ ".__init__", defArgs L.ist, defBody L.ist, defScope L.ist, [], []⟩
def LawI.fn (L : LawI) : List DefD := L.defs.map (fun d => defD d.x d.st) ++ L.words.flatMap (fun w => [defD w.x w.st, defD w.wf w.fst]) ++ if L.errs.isEmpty then [] else [initD L]
def LawI.tf (L : LawI) : List Defn := (L.defs.filter (·.ws)).map fun d => (d.x, none)
theorem lawF_of {L : LawI} {w : World} {K : PySem.W.Frag} {h base : Heap} {mg : Str → Option Value} (c : SaysX L.fa L.fn [] L.tf (exB L) w h K) (KX : K.In base) (G : base.Ns mainGlobals mg) (tb : ∀ p ∈ L.tf.map (cT K), LamX.TabB base mg p.1 p.2) : LawF L K mg base := by
  have cd : SaysD L.fa L.fn K := c.t.d
  refine ⟨KX, G, c.more, fun d hd => ⟨?_, ?_⟩, fun w hw => ⟨?_, ?_, ?_, ?_⟩, fun hn => ?_, fun d hd hw => ?_⟩
  · exact glo_ok KX G (cd.facts (f := .glo d.x) (List.mem_append_left _ (List.mem_map_of_mem hd)))
  · exact cd.defs (d := defD d.x d.st) (List.mem_append_left _ (List.mem_append_left _ (List.mem_map_of_mem hd)))
  · exact glo_ok KX G (cd.facts (f := .glo w.x) (List.mem_append_right _ (List.mem_flatMap.mpr ⟨w, hw, List.mem_cons_self⟩)))
  · exact glo_ok KX G (cd.facts (f := .glo w.wf) (List.mem_append_right _ (List.mem_flatMap.mpr ⟨w, hw, List.mem_cons_of_mem _ List.mem_cons_self⟩)))
  · exact cd.defs (d := defD w.x w.st) (List.mem_append_left _ (List.mem_append_right _ (List.mem_flatMap.mpr ⟨w, hw, List.mem_cons_self⟩)))
  · exact cd.defs (d := defD w.wf w.fst) (List.mem_append_left _ (List.mem_append_right _ (List.mem_flatMap.mpr ⟨w, hw, List.mem_cons_of_mem _ List.mem_cons_self⟩)))
  · refine cd.defs (d := initD L) (List.mem_append_right _ ?_)
    have e : L.errs.isEmpty = false := by
      cases z : L.errs with
      | nil => exact absurd z hn
      | cons _ _ => rfl
    rw [e]
    exact List.mem_cons_self
  · exact tb (cT K (d.x, none)) (List.mem_map.mpr ⟨(d.x, none), List.mem_map.mpr ⟨d, List.mem_filter.mpr ⟨hd, hw⟩, rfl⟩, rfl⟩)
theorem ints_repL {B : Tb} {F : Hp} : ∀ ns : List Int, RepL B F (ns.map V.int) (ns.map Py.D.int)
  | [] => .nil
  | n :: ns => .cons (.int n) (ints_repL ns)
/-- the law is called with its script -/
theorem script_sr {B : Tb} {H : Hp} {a : Addr} {ns : List Int} (hS : SqL B.K H a (ns.map V.int)) (hT : LamX.Tabs B.T H) : ∃ F, SR B F H [some (.ref a)] [.v (.lst (ns.map Py.D.int))] := by
  have key : ∀ F : Hp, Ex F H → (∀ b ps, F b ≠ some (.tbl ps)) → SqL B.K F a (ns.map V.int) → SR B F H [some (.ref a)] [.v (.lst (ns.map Py.D.int))] := fun F hx hn hs => by
    refine ⟨hx, hT, hn, rfl, fun i => ?_, fun i j p h1 => ?_⟩
    · match i with
      | 0 => exact ⟨_, rfl, .lst hs (ints_repL ns)⟩
      | i + 1 => exact trivial
    · match i with
      | 0 => cases h1
      | i + 1 => cases h1
  rcases hS with hS | hS
  · refine ⟨fun b => if b = a then H b else none, key _ (fun b o e => ?_) (fun b ps e => ?_) (.inl ?_)⟩
    · by_cases hb : b = a
      · rw [if_pos hb] at e; exact e
      · rw [if_neg hb] at e; cases e
    · by_cases hb : b = a
      · rw [if_pos hb, hb] at e
        rcases hS with hS | ⟨o, hS⟩ <;> · rw [hS] at e; cases e
      · rw [if_neg hb] at e; cases e
    · rcases hS with hS | ⟨o, hS⟩
      · exact .inl ((if_pos rfl).trans hS)
      · exact .inr ⟨o, (if_pos rfl).trans hS⟩
  · exact ⟨fun _ => none, key _ (fun b o e => nomatch e) (fun b ps e => nomatch e) (.inr hS)⟩
/-- THE END: the law's def, by what the interpreter tells -/
theorem walk_py {l : PySem.W.OpenLaw} {n N0 li hn0 : Nat} {q : Program} {loose : List Str} {XP : (Str → Option Value) → Heap → Prop} {d : DefRec} {L : LawI} {dl : DefI} {x : Str} (LS : LawS L) (hn : l.most = some n) (hn2 : n ≤ sizeLine) (hdf : d.params.defaults = []) (hr : Room (3 * N0 + 5) callerA)
    (hli : L.defs[li]? = some dl) (hx : dl.x = d.name) (hps : dl.ps = [x])
    (pure_ : ∀ ns : List Int, ns.length ≤ n → ∃ fin, L.run N0 li [.v (.lst (ns.map Py.D.int))] = .ret (.v (.bl true)) fin) :
    PySem.W.WalkO q loose XP (hookX hn0 L.fa L.fn [] L.tf (exB L)).says l.row.toRowW d [] (fun f vs => PySem.call f vs) := by
  refine LamX.walk_ofTsE (n := n) (k := 3 * N0 + 5) (x := x) (CX := fun w => L2.CX l.prog w) hn hn2 hdf hr (fun w mg fa h ⟨K, KX, c⟩ G hmg => ?_) fun w H s e s' z => ?_
  · refine ⟨K, KX, ?_⟩
    have cd : SaysD L.fa L.fn K := c.t.d
    have hm := List.mem_of_getElem? hli
    obtain ⟨fd, FD⟩ := cd.defs (d := defD dl.x dl.st) (List.mem_append_left _ (List.mem_append_left _ (List.mem_map_of_mem hm)))
    have FD : FnP K dl.x dl.st (ga K dl.x) fd := FD
    have hfa : fa = ga K dl.x := by
      have e := glo_ok KX G (cd.facts (f := .glo dl.x) (List.mem_append_left _ (List.mem_map_of_mem hm)))
      rw [hx, hmg] at e
      rw [hx]
      exact Value.ref.inj (Option.some.inj e)
    subst hfa
    have bnd := (LS.defs dl hm).bnd
    rw [hps] at bnd
    refine ⟨fd, L.tf.map (cT K), spI (L.tb K) (L.run N0 li), fun p hp => ?_, fun p hp => ?_, fun p hp => ?_, fun s u => FD.bindsA bnd s [u] rfl, fun H a ns hns _ hT hS => ?_, fun base KB GB TB => ?_⟩
    · obtain ⟨p', hp', rfl⟩ := List.mem_map.mp hp
      exact c.empty p' hp'
    · obtain ⟨p', hp', rfl⟩ := List.mem_map.mp hp
      exact c.out p' hp'
    · obtain ⟨p', hp', rfl⟩ := List.mem_map.mp hp
      exact PySem.W.codeHd_of_K KX (c.hd p' hp')
    · have tabs : LamX.Tabs (L.tb K).T H := fun p hp => by
        obtain ⟨d', hd', rfl⟩ := List.mem_map.mp hp
        exact LamX.TabS.nil (hT (cT K (d'.x, none)) (List.mem_map.mpr ⟨(d'.x, none), List.mem_map.mpr ⟨d', hd', rfl⟩, rfl⟩))
      obtain ⟨F, S⟩ := script_sr (B := L.tb K) hS tabs
      obtain ⟨fin, e⟩ := pure_ ns hns
      refine ⟨F, _, S, ?_⟩
      rw [e]
      intro v F' H' _ _ _ out _
      obtain ⟨⟨w', e1, r⟩, _⟩ := out
      cases e1
      cases r
      rfl
    · have := all_ok (P := l.prog) (w := w) LS (lawF_of c KB GB TB) N0 li dl fd hli FD
      rw [hps] at this
      exact this
  · obtain ⟨_, _, _, _, _, _, _, _, _, _, _, _, z⟩ := z
    exact z.elim
end Py
end
section
set_option linter.all false
set_option maxRecDepth 100000
/-! Py: rules to reckon with. -/
namespace Py
section
variable {α β : Type} {G : Cfg}
@[simp] theorem bind_ok (a : α) (env : Env) (f : α → Env → Res β) : (Res.ok a env).bind f = f a env := (rfl)
@[simp] theorem bind_exc (c : Nat) (ds : List D) (env : Env) (f : α → Env → Res β) : (Res.exc c ds env).bind f = .exc c ds env := (rfl)
@[simp] theorem bind_stuck (f : α → Env → Res β) : (Res.stuck : Res α).bind f = .stuck := (rfl)
@[simp] theorem bind_ite (p : Prop) [Decidable p] (a b : Res α) (f : α → Env → Res β) : (if p then a else b).bind f = if p then a.bind f else b.bind f := by split <;> rfl
@[simp] theorem bcase_bl (b : Bool) (x y : Res α) : bcase (.bl b) x y = if b = true then x else y := (rfl)
@[simp] theorem ite_and (b c : Bool) (env : Env) : (if b = true then Res.ok (D.bl c) env else Res.ok (D.bl false) env) = Res.ok (D.bl (b && c)) env := by cases b <;> rfl
@[simp] theorem ite_or (b c : Bool) (env : Env) : (if b = true then Res.ok (D.bl true) env else Res.ok (D.bl c) env) = Res.ok (D.bl (b || c)) env := by cases b <;> rfl
@[simp] theorem ite_andP (p : Prop) [Decidable p] (c : Bool) (env : Env) : (if p then Res.ok (D.bl c) env else Res.ok (D.bl false) env) = Res.ok (D.bl (decide p && c)) env := by by_cases h : p <;> simp [h]
@[simp] theorem ite_orP (p : Prop) [Decidable p] (c : Bool) (env : Env) : (if p then Res.ok (D.bl true) env else Res.ok (D.bl c) env) = Res.ok (D.bl (decide p || c)) env := by by_cases h : p <;> simp [h]
@[simp] theorem ite_notP (p : Prop) [Decidable p] (c : Bool) (env : Env) : (if p then Res.ok (D.bl false) env else Res.ok (D.bl c) env) = Res.ok (D.bl (!decide p && c)) env := by by_cases h : p <;> simp [h]
@[simp] theorem frz_v (d : D) : frz (.v d) = some d := (rfl)
@[simp] theorem frz_fl (ds : List D) : frz (.fl ds) = some (.lst ds) := (rfl)
@[simp] theorem frz_fd (ks vs : List D) : frz (.fd ks vs) = some (.dct ks vs) := (rfl)
@[simp] theorem lift_some (env : Env) (d : D) : lift env (some d) = .ok d env := (rfl)
@[simp] theorem liftL_some (env : Env) (d : α) : liftL env (some d) = .ok d env := (rfl)
@[simp] theorem lift_ite (env : Env) (p : Prop) [Decidable p] (d : D) : lift env (if p then some d else none) = if p then .ok d env else .stuck := by split <;> rfl
@[simp] theorem liftL_ite (env : Env) (p : Prop) [Decidable p] (d : α) : liftL env (if p then some d else none) = if p then .ok d env else .stuck := by split <;> rfl
@[simp] theorem isTy_non (t : Ty) : isTy t .non = false := (rfl)
@[simp] theorem isTy_bl (t : Ty) (b : Bool) : isTy t (.bl b) = (decide (t = .bool) || decide (t = .int)) := (rfl)
@[simp] theorem isTy_int (t : Ty) (i : Int) : isTy t (.int i) = decide (t = .int) := (rfl)
@[simp] theorem isTy_str (t : Ty) (s : List Nat) : isTy t (.str s) = decide (t = .str) := (rfl)
@[simp] theorem isTy_tup (t : Ty) (s : List D) : isTy t (.tup s) = decide (t = .tuple) := (rfl)
@[simp] theorem isTy_lst (t : Ty) (s : List D) : isTy t (.lst s) = decide (t = .list) := (rfl)
@[simp] theorem isTy_dct (t : Ty) (k s : List D) : isTy t (.dct k s) = decide (t = .dict) := (rfl)
/-! operations -/
@[simp] theorem sem_add_int (i j : Int) : sem .add [.int i, .int j] = some (.int (i + j)) := (rfl)
@[simp] theorem sem_add_str (a b : List Nat) : sem .add [.str a, .str b] = if a.length + b.length ≤ line then some (.str (a ++ b)) else none := (rfl)
@[simp] theorem sem_add_lst (a b : List D) : sem .add [.lst a, .lst b] = if a.length + b.length ≤ line then some (.lst (a ++ b)) else none := (rfl)
@[simp] theorem sem_add_tup (a b : List D) : sem .add [.tup a, .tup b] = if a.length + b.length ≤ line then some (.tup (a ++ b)) else none := (rfl)
@[simp] theorem sem_sub (i j : Int) : sem .sub [.int i, .int j] = some (.int (i - j)) := (rfl)
@[simp] theorem sem_mul (i j : Int) : sem .mul [.int i, .int j] = if mulOk i j = true then some (.int (i * j)) else none := (rfl)
@[simp] theorem sem_fdiv (i j : Int) : sem .fdiv [.int i, .int j] = if 0 < j ∧ j < 1073741824 then some (.int (i / j)) else none := by
  show (if (decide (0 < j) && decide (j < 1073741824)) = true then some (D.int (i / j)) else none) = _
  simp
@[simp] theorem sem_mod (i j : Int) : sem .mod [.int i, .int j] = if 0 < j then some (.int (i % j)) else none := by
  show (if decide (0 < j) = true then some (D.int (i % j)) else none) = _
  simp
@[simp] theorem sem_pow (i j : Int) : sem .pow [.int i, .int j] = if 0 ≤ j ∧ j ≤ 1000 ∧ i.natAbs < 2 ^ 64 then some (.int (i ^ j.toNat)) else none := by
  show (if (decide (0 ≤ j) && decide (j ≤ 1000) && decide (i.natAbs < 2 ^ 64)) = true then some (D.int (i ^ j.toNat)) else none) = _
  simp [and_assoc]
@[simp] theorem sem_neg (i : Int) : sem .neg [.int i] = some (.int (-i)) := (rfl)
def iabs (i : Int) : Int := if i < 0 then -i else i
@[simp] theorem sem_abs (i : Int) : sem .abs [.int i] = some (.int (iabs i)) := (rfl)
@[simp] theorem sem_int_int (i : Int) : sem .int [.int i] = some (.int i) := (rfl)
@[simp] theorem sem_int_bl (b : Bool) : sem .int [.bl b] = some (.int (if b then 1 else 0)) := (rfl)
@[simp] theorem sem_lt (i j : Int) : sem .lt [.int i, .int j] = some (.bl (decide (i < j))) := (rfl)
@[simp] theorem sem_le (i j : Int) : sem .le [.int i, .int j] = some (.bl (decide (i ≤ j))) := (rfl)
@[simp] theorem sem_gt (i j : Int) : sem .gt [.int i, .int j] = some (.bl (decide (j < i))) := (rfl)
@[simp] theorem sem_ge (i j : Int) : sem .ge [.int i, .int j] = some (.bl (decide (j ≤ i))) := (rfl)
@[simp] theorem sem_eq_int (i j : Int) : sem .eq [.int i, .int j] = some (.bl (decide (i = j))) := by
  show some (D.bl (i == j)) = _
  rw [Bool.beq_eq_decide_eq]
@[simp] theorem sem_ne_int (i j : Int) : sem .ne [.int i, .int j] = some (.bl (decide (i ≠ j))) := by
  show some (D.bl (!(i == j))) = _
  rw [Bool.beq_eq_decide_eq]
  simp
theorem sem_eq {a b : D} (h : eqOk a b = true) : sem .eq [a, b] = some (.bl (eqv a b)) := if_pos h
theorem sem_ne {a b : D} (h : eqOk a b = true) : sem .ne [a, b] = some (.bl (!eqv a b)) := if_pos h
@[simp] theorem sem_isN (d : D) : sem .isN [d, .non] = some (.bl (isNon d)) := (rfl)
@[simp] theorem sem_notN (d : D) : sem .notN [d, .non] = some (.bl (!isNon d)) := (rfl)
@[simp] theorem isNon_non : isNon .non = true := (rfl)
@[simp] theorem isNon_bl (b : Bool) : isNon (.bl b) = false := (rfl)
@[simp] theorem isNon_int (b : Int) : isNon (.int b) = false := (rfl)
@[simp] theorem isNon_str (b : List Nat) : isNon (.str b) = false := (rfl)
@[simp] theorem isNon_tup (b : List D) : isNon (.tup b) = false := (rfl)
@[simp] theorem isNon_lst (b : List D) : isNon (.lst b) = false := (rfl)
@[simp] theorem isNon_dct (a b : List D) : isNon (.dct a b) = false := (rfl)
@[simp] theorem sem_idx_lst (ds : List D) (i : Int) : sem .idx [.lst ds, .int i] = atD ds i := (rfl)
@[simp] theorem sem_idx_tup (ds : List D) (i : Int) : sem .idx [.tup ds, .int i] = atD ds i := (rfl)
@[simp] theorem sem_len_lst (ds : List D) : sem .len [.lst ds] = some (.int ds.length) := (rfl)
@[simp] theorem sem_len_tup (ds : List D) : sem .len [.tup ds] = some (.int ds.length) := (rfl)
@[simp] theorem sem_len_str (s : List Nat) : sem .len [.str s] = if s.length ≤ line then some (.int s.length) else none := (rfl)
@[simp] theorem sem_str_int (i : Int) : sem .str [.int i] = if i.natAbs.log2 < 1920 then some (.str (digits i)) else none := by
  show (if decide (i.natAbs.log2 < 1920) = true then some (D.str (digits i)) else none) = _
  simp
theorem sem_sum {ds : List D} {l : List Int} (h : asInts ds = some l) : sem .sum [.lst ds] = some (.int l.sum) := by
  show (asInts ds).map _ = _
  rw [h]
  rfl
theorem sem_all {ds : List D} {l : List Bool} (h : asBools ds = some l) : sem .all [.lst ds] = some (.bl (l.all id)) := by
  show (asBools ds).map _ = _
  rw [h]
  rfl
theorem sem_any {ds : List D} {l : List Bool} (h : asBools ds = some l) : sem .any [.lst ds] = some (.bl (l.any id)) := by
  show (asBools ds).map _ = _
  rw [h]
  rfl
@[simp] theorem sem_isi (ts : List Ty) (d : D) : sem (.isi ts) [d] = some (.bl (ts.any fun t => isTy t d)) := (rfl)
@[simp] theorem sCut_lst (lo hi : Option Int) (ds : List D) : sCut lo hi (.lst ds) = some (.lst (cut ds lo hi)) := (rfl)
@[simp] theorem sCut_tup (lo hi : Option Int) (ds : List D) : sCut lo hi (.tup ds) = some (.tup (cut ds lo hi)) := (rfl)
@[simp] theorem seqOf_lst (ds : List D) : seqOf (.lst ds) = some ds := (rfl)
@[simp] theorem seqOf_tup (ds : List D) : seqOf (.tup ds) = some ds := (rfl)
@[simp] theorem rangeOf1 (n : Int) : rangeOf [.int n] = if -(2 ^ 62) ≤ n ∧ n < 2 ^ 62 then some (rangeL 0 n.toNat) else none := (rfl)
theorem rangeOf2 (lo hi : Int) : rangeOf [.int lo, .int hi] = if -(2 ^ 62) ≤ lo ∧ lo < 2 ^ 62 ∧ -(2 ^ 62) ≤ hi ∧ hi < 2 ^ 62 then some (rangeL lo (hi - lo).toNat) else none := rfl
/-! == -/
@[simp] theorem eqv_ii (a b : Int) : eqv (.int a) (.int b) = decide (a = b) := by
  show (a == b) = _
  rw [Bool.beq_eq_decide_eq]
@[simp] theorem eqv_ss (a b : List Nat) : eqv (.str a) (.str b) = decide (a = b) := by
  show (a == b) = _
  rw [Bool.beq_eq_decide_eq]
@[simp] theorem eqv_bb (a b : Bool) : eqv (.bl a) (.bl b) = decide (a = b) := by
  show (a == b) = _
  rw [Bool.beq_eq_decide_eq]
@[simp] theorem eqv_nn : eqv .non .non = true := (rfl)
@[simp] theorem eqv_tt (a b : List D) : eqv (.tup a) (.tup b) = eqvs a b := (rfl)
@[simp] theorem eqv_ll (a b : List D) : eqv (.lst a) (.lst b) = eqvs a b := (rfl)
@[simp] theorem eqv_tl (a b : List D) : eqv (.tup a) (.lst b) = false := (rfl)
@[simp] theorem eqv_lt (a b : List D) : eqv (.lst a) (.tup b) = false := (rfl)
@[simp] theorem eqv_is (a : Int) (b : List Nat) : eqv (.int a) (.str b) = false := (rfl)
@[simp] theorem eqv_si (a : Int) (b : List Nat) : eqv (.str b) (.int a) = false := (rfl)
@[simp] theorem eqvs_nil : eqvs [] [] = true := (rfl)
@[simp] theorem eqvs_cons (a b : D) (as bs : List D) : eqvs (a :: as) (b :: bs) = (eqv a b && eqvs as bs) := (rfl)
@[simp] theorem eqvs_nc (b : D) (bs : List D) : eqvs [] (b :: bs) = false := (rfl)
@[simp] theorem eqvs_cn (b : D) (bs : List D) : eqvs (b :: bs) [] = false := (rfl)
@[simp] theorem plain_int (i : Int) : plain (.int i) = true := (rfl)
@[simp] theorem plain_bl (i : Bool) : plain (.bl i) = true := (rfl)
@[simp] theorem plain_non : plain .non = true := (rfl)
@[simp] theorem plain_tup (ds : List D) : plain (.tup ds) = plains ds := (rfl)
@[simp] theorem plain_lst (ds : List D) : plain (.lst ds) = plains ds := (rfl)
@[simp] theorem plain_str (s : List Nat) : plain (.str s) = s.all (· < 0x110000) := (rfl)
@[simp] theorem plains_nil : plains [] = true := (rfl)
@[simp] theorem plains_cons (d : D) (ds : List D) : plains (d :: ds) = (plain d && plains ds) := (rfl)
@[simp] theorem depth_int (i : Int) : depth (.int i) = 0 := (rfl)
@[simp] theorem depth_bl (i : Bool) : depth (.bl i) = 0 := (rfl)
@[simp] theorem depth_str (i : List Nat) : depth (.str i) = 0 := (rfl)
@[simp] theorem depth_non : depth .non = 0 := (rfl)
@[simp] theorem depth_tup (ds : List D) : depth (.tup ds) = depths ds + 1 := (rfl)
@[simp] theorem depth_lst (ds : List D) : depth (.lst ds) = depths ds + 1 := (rfl)
@[simp] theorem depths_nil : depths [] = 0 := (rfl)
@[simp] theorem depths_cons (d : D) (ds : List D) : depths (d :: ds) = Nat.max (depth d) (depths ds) := (rfl)
/-! borrowed or not -/
@[simp] theorem bor_bor (i : Nat) : isBor (.bor i) = some i := (rfl)
@[simp] theorem bor_non : isBor .non = none := (rfl)
@[simp] theorem bor_bl (b : Bool) : isBor (.bl b) = none := (rfl)
@[simp] theorem bor_int (b : Int) : isBor (.int b) = none := (rfl)
@[simp] theorem bor_str (b : List Nat) : isBor (.str b) = none := (rfl)
@[simp] theorem bor_var (b : Nat) : isBor (.var b) = none := (rfl)
@[simp] theorem bor_glb (b : Nat) : isBor (.glb b) = none := (rfl)
@[simp] theorem bor_op (o : Op) (es : Es) : isBor (.op o es) = none := (rfl)
@[simp] theorem bor_and (es : Es) : isBor (.and es) = none := (rfl)
@[simp] theorem bor_or (es : Es) : isBor (.or es) = none := (rfl)
@[simp] theorem bor_not (e : E) : isBor (.not e) = none := (rfl)
@[simp] theorem bor_ite (a b c : E) : isBor (.ite a b c) = none := (rfl)
@[simp] theorem bor_ch (o p : Op) (a b c : E) : isBor (.ch o p a b c) = none := (rfl)
@[simp] theorem bor_sl (a b c : E) : isBor (.sl a b c) = none := (rfl)
@[simp] theorem bor_att (a : E) (f : Nat) : isBor (.att a f) = none := (rfl)
@[simp] theorem bor_tup (es : Es) : isBor (.tup es) = none := (rfl)
@[simp] theorem bor_lst (es : Es) : isBor (.lst es) = none := (rfl)
@[simp] theorem bor_dnew : isBor .dnew = none := (rfl)
@[simp] theorem bor_call (f : Nat) (es : Es) : isBor (.call f es) = none := (rfl)
@[simp] theorem bor_mk (f : Nat) (es : Es) : isBor (.mk f es) = none := (rfl)
@[simp] theorem bor_lc (t : Tg) (o : List Nat) (i : It) (c : Es) (e : E) : isBor (.lc t o i c e) = none := (rfl)
@[simp] theorem bor_word (f : Nat) (e : E) : isBor (.word f e) = none := (rfl)
/-! parts -/
@[simp] theorem partR_t (a : D) (env : Env) : partR true (.ok a env) = .ok none env := (rfl)
@[simp] theorem partR_f (a : Int) (env : Env) : partR false (.ok (.int a) env) = .ok (some a) env := (rfl)
@[simp] theorem isNonE_non : isNonE .non = true := (rfl)
@[simp] theorem isNonE_int (i : Int) : isNonE (.int i) = false := (rfl)
@[simp] theorem isNonE_var (i : Nat) : isNonE (.var i) = false := (rfl)
@[simp] theorem isNonE_op (o : Op) (es : Es) : isNonE (.op o es) = false := (rfl)
@[simp] theorem borD_var (i : Nat) (d : D) (env : Env) : borD (.var i) d env = some d := (rfl)
@[simp] theorem borD_bor (i : Nat) (d : D) (env : Env) : borD (.bor i) d env = frz (getS env i) := (rfl)
@[simp] theorem borD_op (o : Op) (es : Es) (d : D) (env : Env) : borD (.op o es) d env = some d := (rfl)
@[simp] theorem borD_call (o : Nat) (es : Es) (d : D) (env : Env) : borD (.call o es) d env = some d := (rfl)
@[simp] theorem borD_glb (o : Nat) (d : D) (env : Env) : borD (.glb o) d env = some d := (rfl)
/-! calls -/
@[simp] theorem callR_exc (f : Nat) (es : Es) (c : Nat) (ds : List D) (env : Env) : callR G f es (.exc c ds env) = .exc c ds env := (rfl)
@[simp] theorem valR_v (d : D) (env : Env) : valR (.ok (.v d) env) = .ok d env := (rfl)
@[simp] theorem valR_fl (d : List D) (env : Env) : valR (.ok (.fl d) env) = .ok (.lst d) env := (rfl)
@[simp] theorem valR_exc (c : Nat) (ds : List D) (env : Env) : valR (.exc c ds env) = .exc c ds env := (rfl)
@[simp] theorem wordR_ok (f : Nat) (d : D) (env : Env) : wordR G f (.ok d env) = .ok (.tup [.str [116, 111, 108, 100], d]) env := (rfl)
def flagK (env : Env) : Option Nat → Res D
  | some i => .ok (.tup [.int i]) env
  | none => .stuck
@[simp] theorem flagK_some (env : Env) (i : Nat) : flagK env (some i) = .ok (.tup [.int i]) env := (rfl)
@[simp] theorem wordR_exc (f c : Nat) (env : Env) : wordR G f (.exc c [] env) = flagK env (G.flag f c) := by
  show (match G.flag f c with
    | some i => Res.ok (D.tup [.int i]) env
    | none => Res.stuck) = _
  cases G.flag f c <;> rfl
/-! loops -/
@[simp] theorem again_nxt (g : Env → Res Fl) (env : Env) : again g .nxt env = g env := (rfl)
@[simp] theorem again_cont (g : Env → Res Fl) (env : Env) : again g .cont env = g env := (rfl)
@[simp] theorem again_brk (g : Env → Res Fl) (env : Env) : again g .brk env = .ok .nxt env := (rfl)
@[simp] theorem again_ret (g : Env → Res Fl) (o : O) (env : Env) : again g (.ret o) env = .ok (.ret o) env := (rfl)
@[simp] theorem setO_fl (ds : List D) (i : Int) (d : D) : setO (.fl ds) (.int i) d = if 0 ≤ i ∧ i < ds.length then some (.fl (ds.set i.toNat d)) else none := (rfl)
@[simp] theorem appO_fl (ds : List D) (d : D) : appO (.fl ds) d = if ds.length < line then some (.fl (ds ++ [d])) else none := (rfl)
@[simp] theorem ownOk_nil (p : List Nat) (i : Nat) : ownOk p i [] = true := (rfl)
@[simp] theorem ownOk_v (p : List Nat) (i : Nat) (d : D) (os : List O) : ownOk p i (.v d :: os) = ownOk p (i + 1) os := (rfl)
@[simp] theorem ownOk_fl (p : List Nat) (i : Nat) (d : List D) (os : List O) : ownOk p i (.fl d :: os) = (p.contains i && ownOk p (i + 1) os) := (rfl)
theorem callF_eq (G : Cfg) (f : Fn) (os : List O) : callF G f os = if os.length = f.np ∧ ownOk f.prot 0 os = true then
    (match execs G f.body (os ++ List.replicate (f.ns - f.np) .un) with
    | .ok .nxt env => .ret (.v .non) (finals os env)
    | .ok (.ret o) env => .ret o (finals os env)
    | .exc c ds env => .exc c ds (finals os env)
    | _ => .stuck)
  else .stuck := rfl
/-- a def's end -/
def endF (os : List O) : Res Fl → CRes
  | .ok .nxt env => .ret (.v .non) (finals os env)
  | .ok (.ret o) env => .ret o (finals os env)
  | .exc c ds env => .exc c ds (finals os env)
  | _ => .stuck
@[simp] theorem endF_ret (os : List O) (o : O) (env : Env) : endF os (.ok (.ret o) env) = .ret o (finals os env) := (rfl)
@[simp] theorem endF_nxt (os : List O) (env : Env) : endF os (.ok .nxt env) = .ret (.v .non) (finals os env) := (rfl)
@[simp] theorem endF_exc (os : List O) (c : Nat) (ds : List D) (env : Env) : endF os (.exc c ds env) = .exc c ds (finals os env) := (rfl)
@[simp] theorem endF_ite (os : List O) (p : Prop) [Decidable p] (a b : Res Fl) : endF os (if p then a else b) = if p then endF os a else endF os b := by split <;> rfl
theorem callF_end (G : Cfg) (f : Fn) (os : List O) (h1 : os.length = f.np) (h2 : ownOk f.prot 0 os = true) : callF G f os = endF os (execs G f.body (os ++ List.replicate (f.ns - f.np) .un)) := by
  rw [callF_eq, if_pos ⟨h1, h2⟩]
  generalize execs G f.body _ = r
  cases r with
  | ok fl env => cases fl <;> rfl
  | _ => rfl

theorem set_idem : ∀ (env : Env) (i : Nat) (o o' : O), setS (setS env i o) i o' = setS env i o'
  | [], _, _, _ => rfl
  | _ :: _, 0, _, _ => rfl
  | a :: l, n + 1, o, o' => by simp only [setS]; rw [set_idem l n o o']
theorem set_comm : ∀ (env : Env) (i j : Nat), setS (setS env i .un) j .un = setS (setS env j .un) i .un
  | [], _, _ => rfl
  | _ :: _, 0, 0 => rfl
  | _ :: _, 0, _ + 1 => rfl
  | _ :: _, _ + 1, 0 => rfl
  | a :: l, n + 1, m + 1 => by simp only [setS]; rw [set_comm l n m]

/-! the evaluator, with what is still to do held in names -/
def varK (i : Nat) (env : Env) : Option D → Res D
  | some d => .ok d (setS env i (.v d))
  | none => .stuck
@[simp] theorem varK_some (i : Nat) (env : Env) (d : D) : varK i env (some d) = .ok d (setS env i (.v d)) := (rfl)
def borK (env : Env) : O → Res D
  | .un => .stuck
  | _ => .ok .non env
@[simp] theorem borK_v (env : Env) (d : D) : borK env (.v d) = .ok .non env := (rfl)
@[simp] theorem borK_fl (env : Env) (d : List D) : borK env (.fl d) = .ok .non env := (rfl)
@[simp] theorem borK_fd (env : Env) (k d : List D) : borK env (.fd k d) = .ok .non env := (rfl)
@[simp] theorem borK_fi (env : Env) (c : Nat) (d) : borK env (.fi c d) = .ok .non env := (rfl)
def optK (o : Op) (env : Env) : Option (List D) → Res D
  | some ds => lift env (sem o ds)
  | none => .stuck
@[simp] theorem optK_some (o : Op) (env : Env) (ds : List D) : optK o env (some ds) = lift env (sem o ds) := (rfl)
def opK (o : Op) (es : Es) (ds : List D) (env : Env) : Res D := optK o env (fillD es ds env)
@[simp] theorem opK_e (o : Op) (es : Es) (ds : List D) (env : Env) : opK o es ds env = optK o env (fillD es ds env) := (rfl)
def notK (d : D) (env : Env) : Res D := match d with
  | .bl b => .ok (.bl (!b)) env
  | _ => .stuck
@[simp] theorem notK_e (b : Bool) (env : Env) : notK (.bl b) env = .ok (.bl (!b)) env := (rfl)
def iteK (G : Cfg) (a b : E) (d : D) (env : Env) : Res D := bcase d (evalE G a env) (evalE G b env)
@[simp] theorem iteK_e (a b : E) (d : D) (env : Env) : iteK G a b d env = bcase d (evalE G a env) (evalE G b env) := (rfl)
def chK3 (o : Op) (y z : D) (env : Env) : Res D := lift env (sem o [y, z])
@[simp] theorem chK3_e (o : Op) (y z : D) (env : Env) : chK3 o y z env = lift env (sem o [y, z]) := (rfl)
def chKK (G : Cfg) (o2 : Op) (c : E) (y : D) (env : Env) : Option D → Res D
  | some (.bl true) => (evalE G c env).bind (chK3 o2 y)
  | some (.bl false) => .ok (.bl false) env
  | _ => .stuck
@[simp] theorem chKK_e (o2 : Op) (c : E) (y : D) (env : Env) (b : Bool) : chKK G o2 c y env (some (.bl b)) = if b = true then (evalE G c env).bind (chK3 o2 y) else .ok (.bl false) env := by cases b <;> rfl
def chK2 (G : Cfg) (o1 o2 : Op) (c : E) (x y : D) (env : Env) : Res D := chKK G o2 c y env (sem o1 [x, y])
@[simp] theorem chK2_e (o1 o2 : Op) (c : E) (x y : D) (env : Env) : chK2 G o1 o2 c x y env = chKK G o2 c y env (sem o1 [x, y]) := (rfl)
def chK1 (G : Cfg) (o1 o2 : Op) (b c : E) (x : D) (env : Env) : Res D := (evalE G b env).bind (chK2 G o1 o2 c x)
@[simp] theorem chK1_e (o1 o2 : Op) (b c : E) (x : D) (env : Env) : chK1 G o1 o2 b c x env = (evalE G b env).bind (chK2 G o1 o2 c x) := (rfl)
def slK3 (a : E) (d : D) (i j : Option Int) (env : Env) : Res D := lift env ((borD a d env).bind (sCut i j))
@[simp] theorem slK3_e (a : E) (d : D) (i j : Option Int) (env : Env) : slK3 a d i j env = lift env ((borD a d env).bind (sCut i j)) := (rfl)
def slK2 (G : Cfg) (a hi : E) (d : D) (i : Option Int) (env : Env) : Res D := (partR (isNonE hi) (evalE G hi env)).bind (slK3 a d i)
@[simp] theorem slK2_e (a hi : E) (d : D) (i : Option Int) (env : Env) : slK2 G a hi d i env = (partR (isNonE hi) (evalE G hi env)).bind (slK3 a d i) := (rfl)
def slK1 (G : Cfg) (a lo hi : E) (d : D) (env : Env) : Res D := (partR (isNonE lo) (evalE G lo env)).bind (slK2 G a hi d)
@[simp] theorem slK1_e (a lo hi : E) (d : D) (env : Env) : slK1 G a lo hi d env = (partR (isNonE lo) (evalE G lo env)).bind (slK2 G a hi d) := (rfl)
def attKK (G : Cfg) (f : Nat) (d : D) (env : Env) : Option Nat → Res D
  | some i => lift env (fieldO G (getS env i) f)
  | none => lift env (fieldD G d f)
@[simp] theorem attKK_some (f : Nat) (d : D) (env : Env) (i : Nat) : attKK G f d env (some i) = lift env (fieldO G (getS env i) f) := (rfl)
@[simp] theorem attKK_none (f : Nat) (d : D) (env : Env) : attKK G f d env none = lift env (fieldD G d f) := (rfl)
def attK (G : Cfg) (a : E) (f : Nat) (d : D) (env : Env) : Res D := attKK G f d env (isBor a)
@[simp] theorem attK_e (a : E) (f : Nat) (d : D) (env : Env) : attK G a f d env = attKK G f d env (isBor a) := (rfl)
def tupK (es : Es) (ds : List D) (env : Env) : Res D := if ds.length ≤ line ∧ bors es = [] then .ok (.tup ds) env else .stuck
@[simp] theorem tupK_e (es : Es) (ds : List D) (env : Env) : tupK es ds env = if ds.length ≤ line ∧ bors es = [] then .ok (.tup ds) env else .stuck := (rfl)
def lstK (es : Es) (ds : List D) (env : Env) : Res D := if ds.length ≤ line ∧ bors es = [] then .ok (.lst ds) env else .stuck
@[simp] theorem lstK_e (es : Es) (ds : List D) (env : Env) : lstK es ds env = if ds.length ≤ line ∧ bors es = [] then .ok (.lst ds) env else .stuck := (rfl)
def lstV (ds : List D) (env : Env) : Res D := .ok (.lst ds) env
@[simp] theorem lstV_e (ds : List D) (env : Env) : lstV ds env = .ok (.lst ds) env := (rfl)
def flK (es : Es) (ds : List D) (env : Env) : Res O := if ds.length ≤ line ∧ bors es = [] then .ok (.fl ds) env else .stuck
@[simp] theorem flK_e (es : Es) (ds : List D) (env : Env) : flK es ds env = if ds.length ≤ line ∧ bors es = [] then .ok (.fl ds) env else .stuck := (rfl)
def flV (ds : List D) (env : Env) : Res O := .ok (.fl ds) env
@[simp] theorem flV_e (ds : List D) (env : Env) : flV ds env = .ok (.fl ds) env := (rfl)
def vV (d : D) (env : Env) : Res O := .ok (.v d) env
@[simp] theorem vV_e (d : D) (env : Env) : vV d env = .ok (.v d) env := (rfl)
def consK (d : D) (ds : List D) (env : Env) : Res (List D) := .ok (d :: ds) env
@[simp] theorem consK_e (d : D) (ds : List D) (env : Env) : consK d ds env = .ok (d :: ds) env := (rfl)
def esK (G : Cfg) (es : Es) (d : D) (env : Env) : Res (List D) := (evalEs G es env).bind (consK d)
@[simp] theorem esK_e (es : Es) (d : D) (env : Env) : esK G es d env = (evalEs G es env).bind (consK d) := (rfl)
def andK (G : Cfg) (es : Es) (d : D) (env : Env) : Res D := bcase d (evalAnd G es env) (.ok (.bl false) env)
@[simp] theorem andK_e (es : Es) (d : D) (env : Env) : andK G es d env = bcase d (evalAnd G es env) (.ok (.bl false) env) := (rfl)
def orK (G : Cfg) (es : Es) (d : D) (env : Env) : Res D := bcase d (.ok (.bl true) env) (evalOr G es env)
@[simp] theorem orK_e (es : Es) (d : D) (env : Env) : orK G es d env = bcase d (.ok (.bl true) env) (evalOr G es env) := (rfl)
def testK (cs : Es) (d : D) (env : Env) : Res Bool := match d, cs with
  | .bl b, .nil => .ok b env
  | _, _ => .stuck
@[simp] theorem testK_e (b : Bool) (env : Env) : testK .nil (.bl b) env = .ok b env := (rfl)
def seqOfK (d : D) (env : Env) : Res (List D) := liftL env (seqOf d)
@[simp] theorem seqOfK_e (d : D) (env : Env) : seqOfK d env = liftL env (seqOf d) := (rfl)
def rangeK (ds : List D) (env : Env) : Res (List D) := liftL env (rangeOf ds)
@[simp] theorem rangeK_e (ds : List D) (env : Env) : rangeK ds env = liftL env (rangeOf ds) := (rfl)
def enumK (d : D) (env : Env) : Res (List D) := match d with
  | .lst ds => .ok (enumL 0 ds) env
  | _ => .stuck
@[simp] theorem enumK_e (ds : List D) (env : Env) : enumK (.lst ds) env = .ok (enumL 0 ds) env := (rfl)
def zipK2 (x y : D) (env : Env) : Res (List D) := match x, y with
  | .lst xs, .lst ys => .ok (zipL xs ys) env
  | .tup xs, .tup ys => .ok (zipL xs ys) env
  | _, _ => .stuck
@[simp] theorem zipK2_l (x y : List D) (env : Env) : zipK2 (.lst x) (.lst y) env = .ok (zipL x y) env := (rfl)
@[simp] theorem zipK2_t (x y : List D) (env : Env) : zipK2 (.tup x) (.tup y) env = .ok (zipL x y) env := (rfl)
def zipK1 (G : Cfg) (b : E) (x : D) (env : Env) : Res (List D) := (evalE G b env).bind (zipK2 x)
@[simp] theorem zipK1_e (b : E) (x : D) (env : Env) : zipK1 G b x env = (evalE G b env).bind (zipK2 x) := (rfl)
@[simp] theorem ev_non (env : Env) : evalE G .non env = .ok .non env := by rw [evalE]
@[simp] theorem ev_bl (b : Bool) (env : Env) : evalE G (.bl b) env = .ok (.bl b) env := by rw [evalE]
@[simp] theorem ev_int (b : Int) (env : Env) : evalE G (.int b) env = .ok (.int b) env := by rw [evalE]
@[simp] theorem ev_str (b : List Nat) (env : Env) : evalE G (.str b) env = .ok (.str b) env := by rw [evalE]
@[simp] theorem ev_var (i : Nat) (env : Env) : evalE G (.var i) env = varK i env (frz (getS env i)) := by rw [evalE]; rfl
@[simp] theorem ev_bor (i : Nat) (env : Env) : evalE G (.bor i) env = borK env (getS env i) := by rw [evalE]; rfl
@[simp] theorem ev_glb (i : Nat) (env : Env) : evalE G (.glb i) env = .ok (G.gl i) env := by rw [evalE]
@[simp] theorem ev_op (o : Op) (es : Es) (env : Env) : evalE G (.op o es) env = (evalEs G es env).bind (opK o es) := by rw [evalE]; rfl
@[simp] theorem ev_and (es : Es) (env : Env) : evalE G (.and es) env = evalAnd G es env := by rw [evalE]
@[simp] theorem ev_or (es : Es) (env : Env) : evalE G (.or es) env = evalOr G es env := by rw [evalE]
@[simp] theorem ev_not (a : E) (env : Env) : evalE G (.not a) env = (evalE G a env).bind notK := by rw [evalE]; rfl
@[simp] theorem ev_ite (c a b : E) (env : Env) : evalE G (.ite c a b) env = (evalE G c env).bind (iteK G a b) := by rw [evalE]; rfl
@[simp] theorem ev_ch (o p : Op) (a b c : E) (env : Env) : evalE G (.ch o p a b c) env = (evalE G a env).bind (chK1 G o p b c) := by rw [evalE]; rfl
@[simp] theorem ev_sl (a b c : E) (env : Env) : evalE G (.sl a b c) env = (evalE G a env).bind (slK1 G a b c) := by rw [evalE]; rfl
@[simp] theorem ev_att (a : E) (f : Nat) (env : Env) : evalE G (.att a f) env = (evalE G a env).bind (attK G a f) := by rw [evalE]; rfl
@[simp] theorem ev_tup (es : Es) (env : Env) : evalE G (.tup es) env = (evalEs G es env).bind (tupK es) := by rw [evalE]; rfl
@[simp] theorem ev_lst (es : Es) (env : Env) : evalE G (.lst es) env = (evalEs G es env).bind (lstK es) := by rw [evalE]; rfl
@[simp] theorem ev_dnew (env : Env) : evalE G .dnew env = .ok (.dct [] []) env := by rw [evalE]
@[simp] theorem ev_call (f : Nat) (es : Es) (env : Env) : evalE G (.call f es) env = valR (callR G f es (evalEs G es env)) := by rw [evalE]
@[simp] theorem ev_lc (tg : Tg) (own : List Nat) (it : It) (cs : Es) (e : E) (env : Env) : evalE G (.lc tg own it cs e) env = (lcR tg own (testAll G cs) (evalE G e) (evalIt G it env)).bind lstV := by rw [evalE]; rfl
@[simp] theorem ev_word (f : Nat) (e : E) (env : Env) : evalE G (.word f e) env = wordR G f (evalE G e env) := by rw [evalE]
@[simp] theorem evs_nil (env : Env) : evalEs G .nil env = .ok [] env := by rw [evalEs]
@[simp] theorem evs_cons (e : E) (es : Es) (env : Env) : evalEs G (.cons e es) env = (evalE G e env).bind (esK G es) := by rw [evalEs]; rfl
theorem bind_id {α : Type} (r : Res α) : (r.bind fun d env => .ok d env) = r := by cases r <;> rfl
@[simp] theorem and_one (e : E) (env : Env) : evalAnd G (.cons e .nil) env = evalE G e env := by rw [evalAnd]; exact bind_id _
@[simp] theorem and_more (e f : E) (es : Es) (env : Env) : evalAnd G (.cons e (.cons f es)) env = (evalE G e env).bind (andK G (.cons f es)) := by rw [evalAnd]; rfl
@[simp] theorem or_one (e : E) (env : Env) : evalOr G (.cons e .nil) env = evalE G e env := by rw [evalOr]; exact bind_id _
@[simp] theorem or_more (e f : E) (es : Es) (env : Env) : evalOr G (.cons e (.cons f es)) env = (evalE G e env).bind (orK G (.cons f es)) := by rw [evalOr]; rfl
@[simp] theorem tst_nil (env : Env) : testAll G .nil env = .ok true env := by rw [testAll]
@[simp] theorem tst_cons (c : E) (cs : Es) (env : Env) : testAll G (.cons c cs) env = (evalE G c env).bind (testK cs) := by rw [testAll]; rfl
@[simp] theorem it_seq (e : E) (env : Env) : evalIt G (.seq e) env = (evalE G e env).bind seqOfK := by rw [evalIt]; rfl
@[simp] theorem it_range (es : Es) (env : Env) : evalIt G (.range es) env = (evalEs G es env).bind rangeK := by rw [evalIt]; rfl
@[simp] theorem it_enum (e : E) (env : Env) : evalIt G (.enum e) env = (evalE G e env).bind enumK := by rw [evalIt]; rfl
@[simp] theorem it_zip (a b : E) (env : Env) : evalIt G (.zip a b) env = (evalE G a env).bind (zipK1 G b) := by rw [evalIt]; rfl
/-! own values -/
@[simp] theorem eo_lst (es : Es) (env : Env) : evalO G (.lst es) env = (evalEs G es env).bind (flK es) := (rfl)
@[simp] theorem eo_dnew (env : Env) : evalO G .dnew env = .ok (.fd [] []) env := (rfl)
@[simp] theorem eo_call (f : Nat) (es : Es) (env : Env) : evalO G (.call f es) env = callR G f es (evalEs G es env) := (rfl)
@[simp] theorem eo_lc (tg : Tg) (own : List Nat) (it : It) (cs : Es) (e : E) (env : Env) : evalO G (.lc tg own it cs e) env = (lcR tg own (testAll G cs) (evalE G e) (evalIt G it env)).bind flV := (rfl)
@[simp] theorem eo_op (o : Op) (es : Es) (env : Env) : evalO G (.op o es) env = (evalE G (.op o es) env).bind vV := (rfl)
@[simp] theorem eo_tup (es : Es) (env : Env) : evalO G (.tup es) env = (evalE G (.tup es) env).bind vV := (rfl)
@[simp] theorem eo_var (i : Nat) (env : Env) : evalO G (.var i) env = (evalE G (.var i) env).bind vV := (rfl)
@[simp] theorem eo_glb (i : Nat) (env : Env) : evalO G (.glb i) env = (evalE G (.glb i) env).bind vV := (rfl)
@[simp] theorem eo_ite (a b c : E) (env : Env) : evalO G (.ite a b c) env = (evalE G (.ite a b c) env).bind vV := (rfl)
@[simp] theorem eo_sl (a b c : E) (env : Env) : evalO G (.sl a b c) env = (evalE G (.sl a b c) env).bind vV := (rfl)
@[simp] theorem eo_att (a : E) (f : Nat) (env : Env) : evalO G (.att a f) env = (evalE G (.att a f) env).bind vV := (rfl)
@[simp] theorem eo_word (f : Nat) (e : E) (env : Env) : evalO G (.word f e) env = (evalE G (.word f e) env).bind vV := (rfl)
@[simp] theorem eo_int (i : Int) (env : Env) : evalO G (.int i) env = .ok (.v (.int i)) env := by show (evalE G (.int i) env).bind vV = _; simp
@[simp] theorem eo_non (env : Env) : evalO G .non env = .ok (.v .non) env := by show (evalE G .non env).bind vV = _; simp
@[simp] theorem eo_bl (b : Bool) (env : Env) : evalO G (.bl b) env = .ok (.v (.bl b)) env := by show (evalE G (.bl b) env).bind vV = _; simp
/-! calls -/
def retK (es : Es) (env : Env) : CRes → Res O
  | .ret o fin => .ok o (backO es fin env)
  | .exc c ds fin => .exc c ds (backO es fin env)
  | .stuck => .stuck
@[simp] theorem retK_ret (es : Es) (env : Env) (o : O) (fin : List O) : retK es env (.ret o fin) = .ok o (backO es fin env) := (rfl)
@[simp] theorem retK_exc (es : Es) (env : Env) (c : Nat) (ds : List D) (fin : List O) : retK es env (.exc c ds fin) = .exc c ds (backO es fin env) := (rfl)
@[simp] theorem callR_ok (f : Nat) (es : Es) (ds : List D) (env : Env) : callR G f es (.ok ds env) = if (bors es).Nodup then retK es env (G.call f (fillO es ds env)) else .stuck := (rfl)
/-! statements -/
def nxtK : Option Env → Res Fl
  | some env => .ok .nxt env
  | none => .stuck
@[simp] theorem nxtK_some (env : Env) : nxtK (some env) = .ok .nxt env := (rfl)
def stK (i : Nat) (env : Env) : Option O → Res Fl
  | some o => .ok .nxt (setS env i o)
  | none => .stuck
@[simp] theorem stK_some (i : Nat) (env : Env) (o : O) : stK i env (some o) = .ok .nxt (setS env i o) := (rfl)
@[simp] theorem stK_ite (i : Nat) (env : Env) (p : Prop) [Decidable p] (a b : Option O) : stK i env (if p then a else b) = if p then stK i env a else stK i env b := by split <;> rfl
@[simp] theorem stK_none (i : Nat) (env : Env) : stK i env none = .stuck := (rfl)
def sdK (i : Nat) (env : Env) : Option D → Res Fl
  | some d => .ok .nxt (setS env i (.v d))
  | none => .stuck
@[simp] theorem sdK_some (i : Nat) (env : Env) (d : D) : sdK i env (some d) = .ok .nxt (setS env i (.v d)) := (rfl)
@[simp] theorem sdK_none (i : Nat) (env : Env) : sdK i env none = .stuck := (rfl)
@[simp] theorem sdK_ite (i : Nat) (env : Env) (p : Prop) [Decidable p] (a b : Option D) : sdK i env (if p then a else b) = if p then sdK i env a else sdK i env b := by split <;> rfl
def asgK (i : Nat) (d : D) (env : Env) : Res Fl := .ok .nxt (setS env i (.v d))
@[simp] theorem asgK_e (i : Nat) (d : D) (env : Env) : asgK i d env = .ok .nxt (setS env i (.v d)) := (rfl)
def asgOK (i : Nat) (o : O) (env : Env) : Res Fl := .ok .nxt (setS env i o)
@[simp] theorem asgOK_e (i : Nat) (o : O) (env : Env) : asgOK i o env = .ok .nxt (setS env i o) := (rfl)
def unpK (t : Tg) (d : D) (env : Env) : Res Fl := nxtK (put t d env)
@[simp] theorem unpK_e (t : Tg) (d : D) (env : Env) : unpK t d env = nxtK (put t d env) := (rfl)
def setK2 (i : Nat) (d x : D) (env : Env) : Res Fl := stK i env (setO (getS env i) x d)
@[simp] theorem setK2_e (i : Nat) (d x : D) (env : Env) : setK2 i d x env = stK i env (setO (getS env i) x d) := (rfl)
def setKK (G : Cfg) (i : Nat) (k : E) (d : D) (env : Env) : O → Res Fl
  | .fl _ => (evalE G k env).bind (setK2 i d)
  | _ => .stuck
@[simp] theorem setKK_e (i : Nat) (k : E) (d : D) (env : Env) (ds : List D) : setKK G i k d env (.fl ds) = (evalE G k env).bind (setK2 i d) := (rfl)
def setK (G : Cfg) (i : Nat) (k : E) (d : D) (env : Env) : Res Fl := setKK G i k d env (getS env i)
@[simp] theorem setK_e (i : Nat) (k : E) (d : D) (env : Env) : setK G i k d env = setKK G i k d env (getS env i) := (rfl)
def appK (i : Nat) (d : D) (env : Env) : Res Fl := stK i env (appO (getS env i) d)
@[simp] theorem appK_e (i : Nat) (d : D) (env : Env) : appK i d env = stK i env (appO (getS env i) d) := (rfl)
def appKK (G : Cfg) (i : Nat) (e : E) (env : Env) : O → Res Fl
  | .fl _ => (evalE G e env).bind (appK i)
  | _ => .stuck
@[simp] theorem appKK_e (i : Nat) (e : E) (env : Env) (ds : List D) : appKK G i e env (.fl ds) = (evalE G e env).bind (appK i) := (rfl)
def stfK (i f : Nat) (d : D) (env : Env) : Res Fl := stK i env (stfO (getS env i) f d)
@[simp] theorem stfK_e (i f : Nat) (d : D) (env : Env) : stfK i f d env = stK i env (stfO (getS env i) f d) := (rfl)
def exK (_ : D) (env : Env) : Res Fl := .ok .nxt env
@[simp] theorem exK_e (d : D) (env : Env) : exK d env = .ok .nxt env := (rfl)
def rtK (d : D) (env : Env) : Res Fl := .ok (.ret (.v d)) env
@[simp] theorem rtK_e (d : D) (env : Env) : rtK d env = .ok (.ret (.v d)) env := (rfl)
def rtOK (o : O) (env : Env) : Res Fl := .ok (.ret o) env
@[simp] theorem rtOK_e (o : O) (env : Env) : rtOK o env = .ok (.ret o) env := (rfl)
def rtMK (i : Nat) (env : Env) : O → Res Fl
  | .un => .stuck
  | o => .ok (.ret o) (setS env i .un)
@[simp] theorem rtMK_v (i : Nat) (env : Env) (d : D) : rtMK i env (.v d) = .ok (.ret (.v d)) (setS env i .un) := (rfl)
@[simp] theorem rtMK_fl (i : Nat) (env : Env) (d : List D) : rtMK i env (.fl d) = .ok (.ret (.fl d)) (setS env i .un) := (rfl)
@[simp] theorem rtMK_fd (i : Nat) (env : Env) (k d : List D) : rtMK i env (.fd k d) = .ok (.ret (.fd k d)) (setS env i .un) := (rfl)
@[simp] theorem rtMK_fi (i : Nat) (env : Env) (c : Nat) (d) : rtMK i env (.fi c d) = .ok (.ret (.fi c d)) (setS env i .un) := (rfl)
def iteS (G : Cfg) (a b : Ss) (d : D) (env : Env) : Res Fl := bcase d (execs G a env) (execs G b env)
@[simp] theorem iteS_e (a b : Ss) (d : D) (env : Env) : iteS G a b d env = bcase d (execs G a env) (execs G b env) := (rfl)
def forK (G : Cfg) (t : Tg) (b : Ss) (xs : List D) (env : Env) : Res Fl := forN t (execs G b) xs env
@[simp] theorem forK_e (t : Tg) (b : Ss) (xs : List D) (env : Env) : forK G t b xs env = forN t (execs G b) xs env := (rfl)
def augK (i : Nat) (o : Op) (x : Int) (y : D) (env : Env) : Res Fl := sdK i env (sem o [.int x, y])
@[simp] theorem augK_e (i : Nat) (o : Op) (x : Int) (y : D) (env : Env) : augK i o x y env = sdK i env (sem o [.int x, y]) := (rfl)
def augKK (G : Cfg) (i : Nat) (o : Op) (e : E) (env : Env) : O → Res Fl
  | .v (.int x) => (evalE G e env).bind (augK i o x)
  | _ => .stuck
@[simp] theorem augKK_e (i : Nat) (o : Op) (e : E) (env : Env) (x : Int) : augKK G i o e env (.v (.int x)) = (evalE G e env).bind (augK i o x) := (rfl)
def rseK (c : Nat) (es : Es) (ds : List D) (env : Env) : Res Fl := if bors es = [] then .exc c ds env else .stuck
@[simp] theorem rseK_e (c : Nat) (es : Es) (ds : List D) (env : Env) : rseK c es ds env = if bors es = [] then .exc c ds env else .stuck := (rfl)
def seqK (G : Cfg) (ss : Ss) (f : Fl) (env : Env) : Res Fl := match f with
  | .nxt => execs G ss env
  | f => .ok f env
@[simp] theorem seqK_nxt (ss : Ss) (env : Env) : seqK G ss .nxt env = execs G ss env := (rfl)
@[simp] theorem seqK_ret (ss : Ss) (o : O) (env : Env) : seqK G ss (.ret o) env = .ok (.ret o) env := (rfl)
@[simp] theorem seqK_brk (ss : Ss) (env : Env) : seqK G ss .brk env = .ok .brk env := (rfl)
@[simp] theorem seqK_cont (ss : Ss) (env : Env) : seqK G ss .cont env = .ok .cont env := (rfl)
@[simp] theorem ex_asg (i : Nat) (e : E) (env : Env) : exec G (.asg i e) env = (evalE G e env).bind (asgK i) := by rw [exec]; rfl
@[simp] theorem ex_asgO (i : Nat) (e : E) (env : Env) : exec G (.asgO i e) env = (evalO G e env).bind (asgOK i) := by rw [exec]; rfl
@[simp] theorem ex_unp (t : Tg) (e : E) (env : Env) : exec G (.unp t e) env = (evalE G e env).bind (unpK t) := by rw [exec]; rfl
@[simp] theorem ex_set (i : Nat) (k e : E) (env : Env) : exec G (.set i k e) env = (evalE G e env).bind (setK G i k) := by rw [exec]; rfl
@[simp] theorem ex_app (i : Nat) (e : E) (env : Env) : exec G (.app i e) env = appKK G i e env (getS env i) := by rw [exec]; rfl
@[simp] theorem ex_stf (i f : Nat) (e : E) (env : Env) : exec G (.stf i f e) env = (evalE G e env).bind (stfK i f) := by rw [exec]; rfl
@[simp] theorem ex_ex (e : E) (env : Env) : exec G (.ex e) env = (evalE G e env).bind exK := by rw [exec]; rfl
@[simp] theorem ex_ret (e : E) (env : Env) : exec G (.ret e) env = (evalE G e env).bind rtK := by rw [exec]; rfl
@[simp] theorem ex_retO (e : E) (env : Env) : exec G (.retO e) env = (evalO G e env).bind rtOK := by rw [exec]; rfl
@[simp] theorem ex_retM (i : Nat) (env : Env) : exec G (.retM i) env = rtMK i env (getS env i) := by
  rw [exec]
  cases getS env i <;> rfl
@[simp] theorem ex_retN (env : Env) : exec G .retN env = .ok (.ret (.v .non)) env := by rw [exec]
@[simp] theorem ex_ite (c : E) (a b : Ss) (env : Env) : exec G (.ite c a b) env = (evalE G c env).bind (iteS G a b) := by rw [exec]; rfl
@[simp] theorem ex_for (t : Tg) (it : It) (b : Ss) (env : Env) : exec G (.for t it b) env = (evalIt G it env).bind (forK G t b) := by rw [exec]; rfl
@[simp] theorem ex_whl (n : Nat) (c : E) (b : Ss) (env : Env) : exec G (.whl n c b) env = whileN (evalE G c) (execs G b) n env := by rw [exec]
@[simp] theorem ex_aug (i : Nat) (o : Op) (e : E) (env : Env) : exec G (.aug i o e) env = augKK G i o e env (getS env i) := by rw [exec]; rfl
@[simp] theorem ex_rse (c : Nat) (es : Es) (env : Env) : exec G (.rse c es) env = (evalEs G es env).bind (rseK c es) := by rw [exec]; rfl
@[simp] theorem ex_pass (env : Env) : exec G .pass env = .ok .nxt env := by rw [exec]
@[simp] theorem ex_brk (env : Env) : exec G .brk env = .ok .brk env := by rw [exec]
@[simp] theorem ex_cont (env : Env) : exec G .cont env = .ok .cont env := by rw [exec]
@[simp] theorem exs_nil (env : Env) : execs G .nil env = .ok .nxt env := by rw [execs]
@[simp] theorem exs_cons (s : S) (ss : Ss) (env : Env) : execs G (.cons s ss) env = (exec G s env).bind (seqK G ss) := by
  rw [execs]
  rfl
/-! loops -/
def whlK (c : Env → Res D) (b : Env → Res Fl) (n : Nat) (d : D) (env : Env) : Res Fl := bcase d ((b env).bind (again (whileN c b n))) (.ok .nxt env)
@[simp] theorem whlK_e (c : Env → Res D) (b : Env → Res Fl) (n : Nat) (d : D) (env : Env) : whlK c b n d env = bcase d ((b env).bind (again (whileN c b n))) (.ok .nxt env) := (rfl)
theorem whl_step (c : Env → Res D) (b : Env → Res Fl) (n : Nat) (env : Env) : whileN c b (n + 1) env = (c env).bind (whlK c b n) := by rw [whileN]; rfl
def forKK (t : Tg) (b : Env → Res Fl) (xs : List D) : Option Env → Res Fl
  | none => .stuck
  | some env => (b env).bind (again (forN t b xs))
@[simp] theorem forKK_some (t : Tg) (b : Env → Res Fl) (xs : List D) (env : Env) : forKK t b xs (some env) = (b env).bind (again (forN t b xs)) := (rfl)
theorem for_nil (t : Tg) (b : Env → Res Fl) (env : Env) : forN t b [] env = .ok .nxt env := by rw [forN]
theorem for_cons (t : Tg) (b : Env → Res Fl) (x : D) (xs : List D) (env : Env) : forN t b (x :: xs) env = forKK t b xs (put t x env) := by
  rw [forN]
  cases put t x env <;> rfl
/-! comprehensions -/
def oneK (d : D) (env : Env) : Res (Option D) := .ok (some d) env
@[simp] theorem oneK_e (d : D) (env : Env) : oneK d env = .ok (some d) env := (rfl)
def eltK (elt : Env → Res D) (b : Bool) (env : Env) : Res (Option D) := if b = true then (elt env).bind oneK else .ok none env
@[simp] theorem eltK_e (elt : Env → Res D) (b : Bool) (env : Env) : eltK elt b env = if b = true then (elt env).bind oneK else .ok none env := (rfl)
def turnK (tests : Env → Res Bool) (elt : Env → Res D) : Option Env → Res (Option D)
  | none => .stuck
  | some env => (tests env).bind (eltK elt)
@[simp] theorem turnK_some (tests : Env → Res Bool) (elt : Env → Res D) (env : Env) : turnK tests elt (some env) = (tests env).bind (eltK elt) := (rfl)
def turnL (tg : Tg) (own : List Nat) (tests : Env → Res Bool) (elt : Env → Res D) (x : D) (env : Env) : Res (Option D) := turnK tests elt (put tg x (wipeS env own))
theorem lcR_bind (tg : Tg) (own : List Nat) (tests : Env → Res Bool) (elt : Env → Res D) (xs : List D) (env : Env) : lcR tg own tests elt (.ok xs env) = ((lcGo (turnL tg own tests elt) xs env).bind fun ds env' => if xs.length < line then .ok ds (backS env' env own) else .stuck).calm := by
  have h : (fun x env1 => turnL tg own tests elt x env1) = fun x env1 => match put tg x (wipeS env1 own) with
      | none => Res.stuck
      | some env2 => (tests env2).bind fun b env3 => if b then (elt env3).bind fun d env4 => .ok (some d) env4 else .ok none env3 := by
    funext x env1
    unfold turnL
    cases put tg x (wipeS env1 own) <;> rfl
  show _ = ((lcGo (fun x env1 => turnL tg own tests elt x env1) xs env).bind _).calm
  rw [h]
  rfl
theorem lc_gor {turn : D → Env → Res (Option D)} {own : List Nat} {env : Env} (hd : ∀ x e, turn x e = turn x (wipeS e own)) (g : D → Option D) (e' : D → Env) : ∀ (xs : List D), (∀ x ∈ xs, turn x (wipeS env own) = .ok (g x) (e' x)) → (∀ x ∈ xs, wipeS (e' x) own = wipeS env own) →
    ∀ e, wipeS e own = wipeS env own → ∃ e2, lcGo turn xs e = .ok (xs.filterMap g) e2 ∧ (e2 = e ∨ ∃ x ∈ xs, e2 = e' x)
  | [], _, _, e, _ => ⟨e, by rw [lcGo]; rfl, .inl rfl⟩
  | x :: xs, ht, hw, e, he => by
    obtain ⟨e2, h, hx⟩ := lc_gor hd g e' xs (fun y hy => ht y (.tail _ hy)) (fun y hy => hw y (.tail _ hy)) (e' x) (hw x (.head _))
    refine ⟨e2, ?_, ?_⟩
    · rw [lcGo, hd, he, ht x (.head _)]
      show (lcGo turn xs (e' x)).bind _ = _
      rw [h, List.filterMap_cons]
      show Res.ok _ e2 = _
      cases g x <;> rfl
    · rcases hx with rfl | ⟨y, hy, rfl⟩
      · exact .inr ⟨x, .head _, rfl⟩
      · exact .inr ⟨y, .tail _ hy, rfl⟩
theorem wipe_set (env : Env) (own : List Nat) (i : Nat) : wipeS (setS env i .un) own = setS (wipeS env own) i .un := by
  induction own with
  | nil => rfl
  | cons j l ih =>
    simp only [wipeS]
    rw [ih, set_comm]
theorem wipe_idem (env : Env) : ∀ own : List Nat, wipeS (wipeS env own) own = wipeS env own
  | [] => rfl
  | i :: l => by
    simp only [wipeS]
    rw [wipe_set, wipe_idem env l, set_idem]
/-- a comprehension whose turns leave all slots as they were -/
theorem lc_ok {tg : Tg} {own : List Nat} {tests : Env → Res Bool} {elt : Env → Res D} {xs : List D} {env : Env} (g : D → Option D) (e' : D → Env)
    (ht : ∀ x ∈ xs, turnK tests elt (put tg x (wipeS env own)) = .ok (g x) (e' x))
    (hw : ∀ x ∈ xs, wipeS (e' x) own = wipeS env own) (hb : backS env env own = env) (hb' : ∀ x ∈ xs, backS (e' x) env own = env) (hl : xs.length < line) :
    lcR tg own tests elt (.ok xs env) = .ok (xs.filterMap g) env := by
  rw [lcR_bind]
  obtain ⟨e2, h, hx⟩ := lc_gor (turn := turnL tg own tests elt) (own := own) (env := env) (fun x e => by unfold turnL; rw [wipe_idem]) g e' xs (fun x hx => by unfold turnL; rw [wipe_idem]; exact ht x hx) hw env rfl
  rw [h]
  show (if xs.length < line then Res.ok _ (backS e2 env own) else .stuck).calm = _
  rw [if_pos hl]
  rcases hx with rfl | ⟨y, hy, rfl⟩
  · rw [hb]
    rfl
  · rw [hb' y hy]
    rfl
theorem lc_map {tg : Tg} {own : List Nat} {tests : Env → Res Bool} {elt : Env → Res D} {xs : List D} {env : Env} (g : D → D) (e' : D → Env)
    (ht : ∀ x ∈ xs, turnK tests elt (put tg x (wipeS env own)) = .ok (some (g x)) (e' x))
    (hw : ∀ x ∈ xs, wipeS (e' x) own = wipeS env own) (hb : backS env env own = env) (hb' : ∀ x ∈ xs, backS (e' x) env own = env) (hl : xs.length < line) :
    lcR tg own tests elt (.ok xs env) = .ok (xs.map g) env := by
  rw [lc_ok (fun x => some (g x)) e' ht hw hb hb' hl]
  simp
/-! comprehensions turn by turn -/
def lcEnd (own : List Nat) (env : Env) (n : Nat) : Res (List D) → Res (List D)
  | .ok ds env' => if n < line then .ok ds (backS env' env own) else .stuck
  | _ => .stuck
@[simp] theorem lcEnd_ok (own : List Nat) (env env' : Env) (n : Nat) (ds : List D) : lcEnd own env n (.ok ds env') = if n < line then .ok ds (backS env' env own) else .stuck := (rfl)
def optC (y : Option D) (ys : List D) : List D := match y with | some y => y :: ys | none => ys
@[simp] theorem optC_some (y : D) (ys : List D) : optC (some y) ys = y :: ys := (rfl)
@[simp] theorem optC_none (ys : List D) : optC none ys = ys := (rfl)
def lcK2 (y : Option D) (ys : List D) (env : Env) : Res (List D) := .ok (optC y ys) env
@[simp] theorem lcK2_e (y : Option D) (ys : List D) (env : Env) : lcK2 y ys env = .ok (optC y ys) env := (rfl)
def lcK1 (turn : D → Env → Res (Option D)) (xs : List D) (y : Option D) (env : Env) : Res (List D) := (lcGo turn xs env).bind (lcK2 y)
@[simp] theorem lcK1_e (turn : D → Env → Res (Option D)) (xs : List D) (y : Option D) (env : Env) : lcK1 turn xs y env = (lcGo turn xs env).bind (lcK2 y) := (rfl)
theorem lc_nil (turn : D → Env → Res (Option D)) (env : Env) : lcGo turn [] env = .ok [] env := by rw [lcGo]
theorem lc_cons (turn : D → Env → Res (Option D)) (x : D) (xs : List D) (env : Env) : lcGo turn (x :: xs) env = (turn x env).bind (lcK1 turn xs) := by rw [lcGo]; rfl
theorem lcR_un (tg : Tg) (own : List Nat) (tests : Env → Res Bool) (elt : Env → Res D) (xs : List D) (env : Env) : lcR tg own tests elt (.ok xs env) = lcEnd own env xs.length (lcGo (turnL tg own tests elt) xs env) := by
  rw [lcR_bind]
  cases lcGo (turnL tg own tests elt) xs env with
  | ok ds e =>
    show (if xs.length < line then Res.ok ds (backS e env own) else .stuck).calm = if xs.length < line then .ok ds (backS e env own) else .stuck
    split <;> rfl
  | _ => rfl
theorem lc_step (tg : Tg) (own : List Nat) (tests : Env → Res Bool) (elt : Env → Res D) (x : D) (env : Env) : turnL tg own tests elt x env = turnK tests elt (put tg x (wipeS env own)) := rfl
/-! lengths, sums, places -/
@[simp] theorem line_e : line = 16777216 := (rfl)
@[simp] theorem asBools_nil : asBools [] = some [] := (rfl)
@[simp] theorem asBools_cons (b : Bool) (ds : List D) : asBools (.bl b :: ds) = (asBools ds).map (b :: ·) := (rfl)
@[simp] theorem asInts_nil : asInts [] = some [] := (rfl)
@[simp] theorem asInts_cons (b : Int) (ds : List D) : asInts (.int b :: ds) = (asInts ds).map (b :: ·) := (rfl)
def allK (o : Option (List Bool)) : Option D := o.map fun l => .bl (l.all id)
@[simp] theorem allK_some (l : List Bool) : allK (some l) = some (.bl (l.all id)) := (rfl)
def anyK (o : Option (List Bool)) : Option D := o.map fun l => .bl (l.any id)
@[simp] theorem anyK_some (l : List Bool) : anyK (some l) = some (.bl (l.any id)) := (rfl)
def sumK (o : Option (List Int)) : Option D := o.map fun l => .int l.sum
@[simp] theorem sumK_some (l : List Int) : sumK (some l) = some (.int l.sum) := (rfl)
@[simp] theorem sem_allK (ds : List D) : sem .all [.lst ds] = allK (asBools ds) := (rfl)
@[simp] theorem sem_anyK (ds : List D) : sem .any [.lst ds] = anyK (asBools ds) := (rfl)
@[simp] theorem sem_sumK (ds : List D) : sem .sum [.lst ds] = sumK (asInts ds) := (rfl)
theorem asBools_map (l : List Bool) : asBools (l.map .bl) = some l := by
  induction l with
  | nil => rfl
  | cons b l ih => simp [ih]
theorem asInts_map (l : List Int) : asInts (l.map .int) = some l := by
  induction l with
  | nil => rfl
  | cons b l ih => simp [ih]
theorem all_map {α : Type} (l : List α) (f : α → Bool) : allK (asBools (l.map fun x => .bl (f x))) = some (.bl (l.all f)) := by
  have := asBools_map (l.map f)
  rw [List.map_map] at this
  rw [show (l.map fun x => D.bl (f x)) = l.map (D.bl ∘ f) from rfl, this]
  simp
theorem sum_map {α : Type} (l : List α) (f : α → Int) : sumK (asInts (l.map fun x => .int (f x))) = some (.int (l.map f).sum) := by
  have := asInts_map (l.map f)
  rw [List.map_map] at this
  rw [show (l.map fun x => D.int (f x)) = l.map (D.int ∘ f) from rfl, this]
  simp
theorem atD_in {α : Type} (xs : List α) (i : Int) (h : 0 ≤ i) (h' : i < xs.length) : atD xs i = xs[i.toNat]? := by
  unfold atD ixD
  rw [if_pos h, if_pos h']
  rfl
@[simp] theorem atD_0 {α : Type} (x : α) (xs : List α) : atD (x :: xs) 0 = some x := by
  rw [atD_in _ _ (by omega) (by simp)]
  rfl
theorem atD_lit {α : Type} (xs : List α) (n : Nat) : atD xs (n : Int) = xs[n]? := by
  unfold atD ixD
  rw [if_pos (by omega)]
  by_cases h : (n : Int) < xs.length
  · rw [if_pos h]
    rfl
  · rw [if_neg h]
    simp at h ⊢
    exact h
theorem range_to (lo hi : Int) (k : Nat) (h : hi = lo + k) (h1 : -1000000 ≤ lo) (h2 : hi ≤ 1000000) : rangeOf [.int lo, .int hi] = some (rangeL lo k) := by
  rw [rangeOf2, if_pos (by omega), show (hi - lo).toNat = k from by omega]
@[simp] theorem atD_1 {α : Type} (x0 x1 : α) (xs : List α) : atD (x0 :: x1 :: xs) 1 = some x1 := by
  rw [atD_in _ _ (by omega) (by simp; omega)]
  rfl
@[simp] theorem atD_2 {α : Type} (x0 x1 x2 : α) (xs : List α) : atD (x0 :: x1 :: x2 :: xs) 2 = some x2 := by
  rw [atD_in _ _ (by omega) (by simp; omega)]
  rfl
@[simp] theorem atD_3 {α : Type} (x0 x1 x2 x3 : α) (xs : List α) : atD (x0 :: x1 :: x2 :: x3 :: xs) 3 = some x3 := by
  rw [atD_in _ _ (by omega) (by simp; omega)]
  rfl
@[simp] theorem atD_4 {α : Type} (x0 x1 x2 x3 x4 : α) (xs : List α) : atD (x0 :: x1 :: x2 :: x3 :: x4 :: xs) 4 = some x4 := by
  rw [atD_in _ _ (by omega) (by simp; omega)]
  rfl
@[simp] theorem atD_5 {α : Type} (x0 x1 x2 x3 x4 x5 : α) (xs : List α) : atD (x0 :: x1 :: x2 :: x3 :: x4 :: x5 :: xs) 5 = some x5 := by
  rw [atD_in _ _ (by omega) (by simp; omega)]
  rfl
@[simp] theorem atD_6 {α : Type} (x0 x1 x2 x3 x4 x5 x6 : α) (xs : List α) : atD (x0 :: x1 :: x2 :: x3 :: x4 :: x5 :: x6 :: xs) 6 = some x6 := by
  rw [atD_in _ _ (by omega) (by simp; omega)]
  rfl
@[simp] theorem atD_7 {α : Type} (x0 x1 x2 x3 x4 x5 x6 x7 : α) (xs : List α) : atD (x0 :: x1 :: x2 :: x3 :: x4 :: x5 :: x6 :: x7 :: xs) 7 = some x7 := by
  rw [atD_in _ _ (by omega) (by simp; omega)]
  rfl
@[simp] theorem atD_8 {α : Type} (x0 x1 x2 x3 x4 x5 x6 x7 x8 : α) (xs : List α) : atD (x0 :: x1 :: x2 :: x3 :: x4 :: x5 :: x6 :: x7 :: x8 :: xs) 8 = some x8 := by
  rw [atD_in _ _ (by omega) (by simp; omega)]
  rfl
@[simp] theorem atD_9 {α : Type} (x0 x1 x2 x3 x4 x5 x6 x7 x8 x9 : α) (xs : List α) : atD (x0 :: x1 :: x2 :: x3 :: x4 :: x5 :: x6 :: x7 :: x8 :: x9 :: xs) 9 = some x9 := by
  rw [atD_in _ _ (by omega) (by simp; omega)]
  rfl
@[simp] theorem atD_10 {α : Type} (x0 x1 x2 x3 x4 x5 x6 x7 x8 x9 x10 : α) (xs : List α) : atD (x0 :: x1 :: x2 :: x3 :: x4 :: x5 :: x6 :: x7 :: x8 :: x9 :: x10 :: xs) 10 = some x10 := by
  rw [atD_in _ _ (by omega) (by simp; omega)]
  rfl
@[simp] theorem atD_11 {α : Type} (x0 x1 x2 x3 x4 x5 x6 x7 x8 x9 x10 x11 : α) (xs : List α) : atD (x0 :: x1 :: x2 :: x3 :: x4 :: x5 :: x6 :: x7 :: x8 :: x9 :: x10 :: x11 :: xs) 11 = some x11 := by
  rw [atD_in _ _ (by omega) (by simp; omega)]
  rfl
@[simp] theorem sem_eq_bl (a b : Bool) : sem .eq [.bl a, .bl b] = some (.bl (decide (a = b))) := by cases a <;> cases b <;> rfl
@[simp] theorem sem_ne_bl (a b : Bool) : sem .ne [.bl a, .bl b] = some (.bl (!decide (a = b))) := by cases a <;> cases b <;> rfl
theorem sem_eqK (a b : D) : sem .eq [a, b] = if (plain a && plain b && decide (depth a ≤ 64) && decide (depth b ≤ 64)) = true then some (.bl (eqv a b)) else none := rfl
theorem sem_neK (a b : D) : sem .ne [a, b] = if (plain a && plain b && decide (depth a ≤ 64) && decide (depth b ≤ 64)) = true then some (.bl (!eqv a b)) else none := rfl
end
end Py
end
section
set_option Elab.async false
set_option linter.all false
set_option maxRecDepth 100000
set_option maxHeartbeats 4000000
namespace K73
open PySem PySem.Spec PyProof.Rows L2 Py
def top (i : Nat) : Stmt := PySem.Challenge.pw_hourwright_k73_days_and_dates.main.body.getD i (.Pass ⟨0, 0, 0, 0⟩)
def b_is_plain_integer : Ss := (.cons (.ret (.and (.cons (.op (.isi [.int]) (.cons (.var 0) .nil)) (.cons (.not (.op (.isi [.bool]) (.cons (.var 0) .nil))) .nil)))) .nil)
def d_is_plain_integer : DefI := ⟨"is_plain_integer", top 5, ["thing"], ⟨1, 1, [], b_is_plain_integer⟩, false⟩
def b_is_integer : Ss := (.cons (.ret (.and (.cons (.op (.isi [.int]) (.cons (.var 0) .nil)) (.cons (.not (.op (.isi [.bool]) (.cons (.var 0) .nil))) .nil)))) .nil)
def d_is_integer : DefI := ⟨"is_integer", top 7, ["thing"], ⟨1, 1, [], b_is_integer⟩, false⟩
def b_is_number : Ss := (.cons (.ret (.and (.cons (.call 1 (.cons (.var 0) .nil)) (.cons (.op .ge (.cons (.var 0) (.cons (.int 0) .nil))) .nil)))) .nil)
def d_is_number : DefI := ⟨"is_number", top 8, ["thing"], ⟨1, 1, [], b_is_number⟩, false⟩
def b_is_leap : Ss := (.cons (.ret (.or (.cons (.and (.cons (.op .eq (.cons (.op .mod (.cons (.var 0) (.cons (.int 4) .nil))) (.cons (.int 0) .nil))) (.cons (.op .ne (.cons (.op .mod (.cons (.var 0) (.cons (.int 100) .nil))) (.cons (.int 0) .nil))) .nil))) (.cons (.op .eq (.cons (.op .mod (.cons (.var 0) (.cons (.int 400) .nil))) (.cons (.int 0) .nil))) .nil)))) .nil)
def d_is_leap : DefI := ⟨"is_leap", top 14, ["year"], ⟨1, 1, [], b_is_leap⟩, false⟩
def b_month_days : Ss := (.cons (.ret (.op .add (.cons (.op .idx (.cons (.glb 3) (.cons (.op .sub (.cons (.var 1) (.cons (.int 1) .nil))) .nil))) (.cons (.op .int (.cons (.and (.cons (.op .eq (.cons (.var 1) (.cons (.int 2) .nil))) (.cons (.call 3 (.cons (.var 0) .nil)) .nil))) .nil)) .nil)))) .nil)
def d_month_days : DefI := ⟨"month_days", top 15, ["year", "month"], ⟨2, 2, [], b_month_days⟩, false⟩
def b_is_date : Ss := (.cons (.ite (.or (.cons (.not (.op (.isi [.tuple]) (.cons (.var 0) .nil))) (.cons (.op .ne (.cons (.op .len (.cons (.var 0) .nil)) (.cons (.int 3) .nil))) (.cons (.not (.op .all (.cons (.lc (.name 4) [4] (.seq (.var 0)) .nil (.call 0 (.cons (.var 4) .nil))) .nil))) .nil)))) (.cons (.ret (.bl false)) .nil) .nil) (.cons (.unp (.tup (.cons (.name 1) (.cons (.name 2) (.cons (.name 3) .nil)))) (.var 0)) (.cons (.ite (.or (.cons (.not (.ch .le .le (.glb 0) (.var 1) (.glb 1))) (.cons (.not (.ch .le .le (.int 1) (.var 2) (.op .len (.cons (.glb 3) .nil)))) .nil))) (.cons (.ret (.bl false)) .nil) .nil) (.cons (.ret (.ch .le .le (.int 1) (.var 3) (.call 4 (.cons (.var 1) (.cons (.var 2) .nil))))) .nil))))
def d_is_date : DefI := ⟨"is_date", top 16, ["thing", "year", "month", "day", "part"], ⟨1, 5, [], b_is_date⟩, false⟩
def b_leaps_until : Ss := (.cons (.ret (.op .add (.cons (.op .sub (.cons (.op .fdiv (.cons (.var 0) (.cons (.int 4) .nil))) (.cons (.op .fdiv (.cons (.var 0) (.cons (.int 100) .nil))) .nil))) (.cons (.op .fdiv (.cons (.var 0) (.cons (.int 400) .nil))) .nil)))) .nil)
def d_leaps_until : DefI := ⟨"leaps_until", top 17, ["year"], ⟨1, 1, [], b_leaps_until⟩, false⟩
def b_days_ahead : Ss := (.cons (.ret (.op .sub (.cons (.op .add (.cons (.op .mul (.cons (.int 365) (.cons (.op .sub (.cons (.var 0) (.cons (.glb 0) .nil))) .nil))) (.cons (.call 6 (.cons (.op .sub (.cons (.var 0) (.cons (.int 1) .nil))) .nil)) .nil))) (.cons (.call 6 (.cons (.op .sub (.cons (.glb 0) (.cons (.int 1) .nil))) .nil)) .nil)))) .nil)
def d_days_ahead : DefI := ⟨"days_ahead", top 18, ["year"], ⟨1, 1, [], b_days_ahead⟩, false⟩
def b_number_of : Ss := (.cons (.unp (.tup (.cons (.name 1) (.cons (.name 2) (.cons (.name 3) .nil)))) (.var 0)) (.cons (.ret (.op .sub (.cons (.op .add (.cons (.op .add (.cons (.call 7 (.cons (.var 1) .nil)) (.cons (.op .sum (.cons (.lc (.name 4) [4] (.range (.cons (.int 1) (.cons (.var 2) .nil))) .nil (.call 4 (.cons (.var 1) (.cons (.var 4) .nil)))) .nil)) .nil))) (.cons (.var 3) .nil))) (.cons (.int 1) .nil)))) .nil))
def d_number_of : DefI := ⟨"number_of", top 19, ["date", "year", "month", "day", "one"], ⟨1, 5, [], b_number_of⟩, false⟩
def b_raw_date : Ss := (.cons (.asg 1 (.op .add (.cons (.glb 0) (.cons (.op .fdiv (.cons (.var 0) (.cons (.int 366) .nil))) .nil)))) (.cons (.whl 64 (.op .le (.cons (.call 7 (.cons (.op .add (.cons (.var 1) (.cons (.int 1) .nil))) .nil)) (.cons (.var 0) .nil))) (.cons (.aug 1 .add (.int 1)) .nil)) (.cons (.asg 2 (.op .sub (.cons (.var 0) (.cons (.call 7 (.cons (.var 1) .nil)) .nil)))) (.cons (.asg 3 (.int 1)) (.cons (.whl 64 (.op .ge (.cons (.var 2) (.cons (.call 4 (.cons (.var 1) (.cons (.var 3) .nil))) .nil))) (.cons (.aug 2 .sub (.call 4 (.cons (.var 1) (.cons (.var 3) .nil)))) (.cons (.aug 3 .add (.int 1)) .nil))) (.cons (.ret (.tup (.cons (.var 1) (.cons (.var 3) (.cons (.op .add (.cons (.var 2) (.cons (.int 1) .nil))) .nil))))) .nil))))))
def d_raw_date : DefI := ⟨"raw_date", top 20, ["number", "year", "left", "month"], ⟨1, 4, [], b_raw_date⟩, false⟩
def b_day_number : Ss := (.cons (.ite (.not (.call 5 (.cons (.var 0) .nil))) (.cons (.rse 2 .nil) .nil) .nil) (.cons (.ret (.call 8 (.cons (.var 0) .nil))) .nil))
def d_day_number : DefI := ⟨"day_number", top 21, ["date"], ⟨1, 1, [], b_day_number⟩, false⟩
def b_date_of : Ss := (.cons (.ite (.or (.cons (.not (.call 2 (.cons (.var 0) .nil))) (.cons (.op .ge (.cons (.var 0) (.cons (.call 7 (.cons (.op .add (.cons (.glb 1) (.cons (.int 1) .nil))) .nil)) .nil))) .nil))) (.cons (.rse 1 .nil) .nil) .nil) (.cons (.ret (.call 9 (.cons (.var 0) .nil))) .nil))
def d_date_of : DefI := ⟨"date_of", top 22, ["number"], ⟨1, 1, [], b_date_of⟩, false⟩
def b_weekday : Ss := (.cons (.ret (.op .mod (.cons (.call 10 (.cons (.var 0) .nil)) (.cons (.glb 2) .nil)))) .nil)
def d_weekday : DefI := ⟨"weekday", top 23, ["date"], ⟨1, 1, [], b_weekday⟩, false⟩
def b_law_hand : Ss := (.cons (.asg 1 (.lc (.name 2) [2] (.seq (.sl (.var 0) .non (.int 63))) .nil (.op .abs (.cons (.op .int (.cons (.var 2) .nil)) .nil)))) (.cons (.retO (.lst (.cons (.var 1) (.cons (.int 0) (.cons (.int 0) (.cons (.op .add (.cons (.int 41) (.cons (.op .len (.cons (.var 1) .nil)) .nil))) (.cons (.int 0) .nil))))))) .nil))
def d_law_hand : DefI := ⟨"_law_hand", top 25, ["script", "cells", "cell"], ⟨1, 3, [], b_law_hand⟩, false⟩
def b_law_draw : Ss := (.cons (.ite (.and (.cons (.op .eq (.cons (.op .idx (.cons (.bor 0) (.cons (.int 2) .nil))) (.cons (.int 0) .nil))) (.cons (.op .lt (.cons (.op .idx (.cons (.bor 0) (.cons (.int 1) .nil))) (.cons (.op .len (.cons (.op .idx (.cons (.bor 0) (.cons (.int 0) .nil))) .nil)) .nil))) .nil))) (.cons (.asg 3 (.op .idx (.cons (.op .idx (.cons (.bor 0) (.cons (.int 0) .nil))) (.cons (.op .idx (.cons (.bor 0) (.cons (.int 1) .nil))) .nil)))) (.cons (.set 0 (.int 1) (.op .add (.cons (.op .idx (.cons (.bor 0) (.cons (.int 1) .nil))) (.cons (.int 1) .nil)))) (.cons (.set 0 (.int 3) (.op .mod (.cons (.op .int (.cons (.op .add (.cons (.op .add (.cons (.op .mul (.cons (.op .idx (.cons (.bor 0) (.cons (.int 3) .nil))) (.cons (.int 69621) .nil))) (.cons (.var 3) .nil))) (.cons (.int 103) .nil))) .nil)) (.cons (.int 2147483629) .nil)))) (.cons (.ite (.op .ge (.cons (.var 3) (.cons (.op .pow (.cons (.int 10) (.cons (.int 18) .nil))) .nil))) (.cons (.set 0 (.int 2) (.var 3)) .nil) .nil) .nil)))) .nil) (.cons (.ite (.op .gt (.cons (.op .idx (.cons (.bor 0) (.cons (.int 2) .nil))) (.cons (.int 0) .nil))) (.cons (.asg 4 (.op .mod (.cons (.op .int (.cons (.op .idx (.cons (.bor 0) (.cons (.int 2) .nil))) .nil)) (.cons (.var 1) .nil)))) (.cons (.set 0 (.int 2) (.op .fdiv (.cons (.op .idx (.cons (.bor 0) (.cons (.int 2) .nil))) (.cons (.var 1) .nil)))) (.cons (.ret (.var 4)) .nil))) .nil) (.cons (.set 0 (.int 4) (.op .add (.cons (.op .idx (.cons (.bor 0) (.cons (.int 4) .nil))) (.cons (.int 1) .nil)))) (.cons (.asg 2 (.op .mod (.cons (.op .int (.cons (.op .mul (.cons (.op .int (.cons (.op .add (.cons (.op .idx (.cons (.bor 0) (.cons (.int 3) .nil))) (.cons (.op .mul (.cons (.int 7919) (.cons (.op .idx (.cons (.bor 0) (.cons (.int 4) .nil))) .nil))) .nil))) .nil)) (.cons (.int 48271) .nil))) .nil)) (.cons (.int 2147483647) .nil)))) (.cons (.asg 2 (.op .mod (.cons (.op .int (.cons (.op .mul (.cons (.var 2) (.cons (.op .add (.cons (.op .fdiv (.cons (.var 2) (.cons (.int 1009) .nil))) (.cons (.int 69621) .nil))) .nil))) .nil)) (.cons (.int 2147483647) .nil)))) (.cons (.asg 2 (.op .mod (.cons (.op .int (.cons (.op .mul (.cons (.var 2) (.cons (.op .add (.cons (.op .fdiv (.cons (.var 2) (.cons (.int 2003) .nil))) (.cons (.int 40692) .nil))) .nil))) .nil)) (.cons (.int 2147483399) .nil)))) (.cons (.ret (.op .mod (.cons (.op .int (.cons (.op .fdiv (.cons (.var 2) (.cons (.int 16) .nil))) .nil)) (.cons (.var 1) .nil)))) .nil)))))))
def d_law_draw : DefI := ⟨"_law_draw", top 26, ["hand", "limit", "number", "cell", "digit"], ⟨2, 5, [0], b_law_draw⟩, false⟩
def b_law_some : Ss := (.cons (.ret (.op .idx (.cons (.var 1) (.cons (.call 14 (.cons (.bor 0) (.cons (.op .len (.cons (.var 1) .nil)) .nil))) .nil)))) .nil)
def d_law_some : DefI := ⟨"_law_some", top 27, ["hand", "items"], ⟨2, 2, [0], b_law_some⟩, false⟩
def b_law_is : Ss := (.cons (.ite (.op (.isi [.tuple, .list]) (.cons (.var 1) .nil)) (.cons (.ite (.or (.cons (.op .ne (.cons (.op (.isi [.tuple]) (.cons (.var 1) .nil)) (.cons (.op (.isi [.tuple]) (.cons (.var 0) .nil)) .nil))) (.cons (.not (.op (.isi [.tuple, .list]) (.cons (.var 0) .nil))) .nil))) (.cons (.ret (.bl false)) .nil) .nil) (.cons (.ret (.and (.cons (.op .eq (.cons (.op .len (.cons (.var 0) .nil)) (.cons (.op .len (.cons (.var 1) .nil)) .nil))) (.cons (.op .all (.cons (.lc (.tup (.cons (.name 2) (.cons (.name 3) .nil))) [2, 3] (.zip (.var 0) (.var 1)) .nil (.call 16 (.cons (.var 2) (.cons (.var 3) .nil)))) .nil)) .nil)))) .nil)) .nil) (.cons (.ite (.or (.cons (.op .isN (.cons (.var 1) (.cons .non .nil))) (.cons (.op .isN (.cons (.var 0) (.cons .non .nil))) .nil))) (.cons (.ret (.and (.cons (.op .isN (.cons (.var 1) (.cons .non .nil))) (.cons (.op .isN (.cons (.var 0) (.cons .non .nil))) .nil)))) .nil) .nil) (.cons (.ite (.or (.cons (.op (.isi [.bool]) (.cons (.var 1) .nil)) (.cons (.op (.isi [.bool]) (.cons (.var 0) .nil)) .nil))) (.cons (.ret (.and (.cons (.op (.isi [.bool]) (.cons (.var 1) .nil)) (.cons (.op (.isi [.bool]) (.cons (.var 0) .nil)) (.cons (.op .eq (.cons (.var 0) (.cons (.var 1) .nil))) .nil))))) .nil) .nil) (.cons (.ret (.and (.cons (.op (.isi [.int, .str]) (.cons (.var 0) .nil)) (.cons (.op .eq (.cons (.op (.isi [.str]) (.cons (.var 0) .nil)) (.cons (.op (.isi [.str]) (.cons (.var 1) .nil)) .nil))) (.cons (.op .eq (.cons (.var 0) (.cons (.var 1) .nil))) .nil))))) .nil))))
def d_law_is : DefI := ⟨"_law_is", top 28, ["thing", "due", "one", "other"], ⟨2, 4, [], b_law_is⟩, false⟩
def b_law_deep : Ss := (.cons (.for (.name 2) (.range (.cons (.var 1) .nil)) (.cons (.asg 0 (.ite (.op .lt (.cons (.var 2) (.cons (.int 5) .nil))) (.tup (.cons (.var 0) .nil)) (.lst (.cons (.var 0) .nil)))) .nil)) (.cons (.ret (.var 0)) .nil))
def d_law_deep : DefI := ⟨"_law_deep", top 29, ["thing", "turns", "turn"], ⟨2, 3, [], b_law_deep⟩, false⟩
def b_law_is_leap : Ss := (.cons (.ret (.and (.cons (.op .eq (.cons (.op .mod (.cons (.op .int (.cons (.var 0) .nil)) (.cons (.int 4) .nil))) (.cons (.int 0) .nil))) (.cons (.or (.cons (.op .ne (.cons (.op .mod (.cons (.op .int (.cons (.var 0) .nil)) (.cons (.int 100) .nil))) (.cons (.int 0) .nil))) (.cons (.op .eq (.cons (.op .mod (.cons (.op .int (.cons (.var 0) .nil)) (.cons (.int 400) .nil))) (.cons (.int 0) .nil))) .nil))) .nil)))) .nil)
def d_law_is_leap : DefI := ⟨"_law_is_leap", top 30, ["year"], ⟨1, 1, [], b_law_is_leap⟩, false⟩
def b_law_month : Ss := (.cons (.asg 2 (.lst (.cons (.int 31) (.cons (.ite (.call 18 (.cons (.var 0) .nil)) (.int 29) (.int 28)) (.cons (.int 31) (.cons (.int 30) (.cons (.int 31) (.cons (.int 30) (.cons (.int 31) (.cons (.int 31) (.cons (.int 30) (.cons (.int 31) (.cons (.int 30) (.cons (.int 31) .nil)))))))))))))) (.cons (.ret (.op .idx (.cons (.var 2) (.cons (.op .sub (.cons (.var 1) (.cons (.int 1) .nil))) .nil)))) .nil))
def d_law_month : DefI := ⟨"_law_month", top 31, ["year", "month", "days"], ⟨2, 3, [], b_law_month⟩, false⟩
def b_law_number : Ss := (.cons (.unp (.tup (.cons (.name 3) (.cons (.name 4) (.cons (.name 5) .nil)))) (.var 0)) (.cons (.asg 1 (.op .sub (.cons (.var 3) (.cons (.int 1) .nil)))) (.cons (.asg 2 (.op .sub (.cons (.op .add (.cons (.op .sub (.cons (.op .fdiv (.cons (.var 1) (.cons (.int 4) .nil))) (.cons (.op .fdiv (.cons (.var 1) (.cons (.int 100) .nil))) .nil))) (.cons (.op .fdiv (.cons (.var 1) (.cons (.int 400) .nil))) .nil))) (.cons (.op .add (.cons (.op .sub (.cons (.op .fdiv (.cons (.int 1899) (.cons (.int 4) .nil))) (.cons (.op .fdiv (.cons (.int 1899) (.cons (.int 100) .nil))) .nil))) (.cons (.op .fdiv (.cons (.int 1899) (.cons (.int 400) .nil))) .nil))) .nil)))) (.cons (.ret (.op .sub (.cons (.op .add (.cons (.op .add (.cons (.op .add (.cons (.op .mul (.cons (.op .sub (.cons (.var 3) (.cons (.int 1900) .nil))) (.cons (.int 365) .nil))) (.cons (.var 2) .nil))) (.cons (.op .sum (.cons (.lc (.name 6) [6] (.range (.cons (.int 1) (.cons (.var 4) .nil))) .nil (.call 19 (.cons (.var 3) (.cons (.var 6) .nil)))) .nil)) .nil))) (.cons (.var 5) .nil))) (.cons (.int 1) .nil)))) .nil))))
def d_law_number : DefI := ⟨"_law_number", top 32, ["date", "ahead", "leaps", "year", "month", "day", "one"], ⟨1, 7, [], b_law_number⟩, false⟩
def b_law_next : Ss := (.cons (.unp (.tup (.cons (.name 1) (.cons (.name 2) (.cons (.name 3) .nil)))) (.var 0)) (.cons (.ite (.op .lt (.cons (.var 3) (.cons (.call 19 (.cons (.var 1) (.cons (.var 2) .nil))) .nil))) (.cons (.ret (.tup (.cons (.var 1) (.cons (.var 2) (.cons (.op .add (.cons (.var 3) (.cons (.int 1) .nil))) .nil))))) .nil) .nil) (.cons (.ret (.ite (.op .lt (.cons (.var 2) (.cons (.int 12) .nil))) (.tup (.cons (.var 1) (.cons (.op .add (.cons (.var 2) (.cons (.int 1) .nil))) (.cons (.int 1) .nil)))) (.tup (.cons (.op .add (.cons (.var 1) (.cons (.int 1) .nil))) (.cons (.int 1) (.cons (.int 1) .nil)))))) .nil)))
def d_law_next : DefI := ⟨"_law_next", top 33, ["date", "year", "month", "day"], ⟨1, 4, [], b_law_next⟩, false⟩
def b_law_date : Ss := (.cons (.asg 1 (.call 15 (.cons (.bor 0) (.cons (.lst (.cons (.int 1900) (.cons (.int 1904) (.cons (.int 1999) (.cons (.int 2000) (.cons (.int 2024) (.cons (.int 2025) (.cons (.int 2100) (.cons (.int 2400) (.cons (.int 2999) (.cons (.op .add (.cons (.int 1900) (.cons (.call 14 (.cons (.bor 0) (.cons (.int 1100) .nil))) .nil))) .nil))))))))))) .nil)))) (.cons (.asg 2 (.call 15 (.cons (.bor 0) (.cons (.lst (.cons (.int 1) (.cons (.int 2) (.cons (.int 2) (.cons (.int 3) (.cons (.int 12) (.cons (.op .add (.cons (.int 1) (.cons (.call 14 (.cons (.bor 0) (.cons (.int 12) .nil))) .nil))) .nil))))))) .nil)))) (.cons (.asg 3 (.call 19 (.cons (.var 1) (.cons (.var 2) .nil)))) (.cons (.ret (.tup (.cons (.var 1) (.cons (.var 2) (.cons (.call 15 (.cons (.bor 0) (.cons (.lst (.cons (.int 1) (.cons (.var 3) (.cons (.op .sub (.cons (.var 3) (.cons (.int 1) .nil))) (.cons (.op .add (.cons (.int 1) (.cons (.call 14 (.cons (.bor 0) (.cons (.var 3) .nil))) .nil))) .nil))))) .nil))) .nil))))) .nil))))
def d_law_date : DefI := ⟨"_law_date", top 34, ["hand", "year", "month", "last"], ⟨1, 4, [0], b_law_date⟩, false⟩
def b_law_no_date : Ss := (.cons (.asg 1 (.op .add (.cons (.int 1900) (.cons (.call 14 (.cons (.bor 0) (.cons (.int 1100) .nil))) .nil)))) (.cons (.asg 2 (.lst (.cons (.tup (.cons (.var 1) (.cons (.int 2) (.cons (.int 30) .nil)))) (.cons (.tup (.cons (.int 2100) (.cons (.int 2) (.cons (.int 29) .nil)))) (.cons (.tup (.cons (.int 1900) (.cons (.int 2) (.cons (.int 29) .nil)))) (.cons (.tup (.cons (.int 2025) (.cons (.int 2) (.cons (.int 29) .nil)))) (.cons (.tup (.cons (.var 1) (.cons (.int 4) (.cons (.int 31) .nil)))) (.cons (.tup (.cons (.var 1) (.cons (.int 13) (.cons (.int 1) .nil)))) (.cons (.tup (.cons (.var 1) (.cons (.int 0) (.cons (.int 1) .nil)))) .nil))))))))) (.cons (.asg 2 (.op .add (.cons (.var 2) (.cons (.lst (.cons (.tup (.cons (.var 1) (.cons (.int 1) (.cons (.int 0) .nil)))) (.cons (.tup (.cons (.var 1) (.cons (.int 1) (.cons (.int 32) .nil)))) (.cons (.tup (.cons (.int 1899) (.cons (.int 12) (.cons (.int 31) .nil)))) (.cons (.tup (.cons (.int 3000) (.cons (.int 1) (.cons (.int 1) .nil)))) (.cons (.tup (.cons (.bl true) (.cons (.int 1) (.cons (.int 1) .nil)))) (.cons (.tup (.cons (.var 1) (.cons (.bl true) (.cons (.int 1) .nil)))) .nil))))))) .nil)))) (.cons (.asg 2 (.op .add (.cons (.var 2) (.cons (.lst (.cons (.lst (.cons (.var 1) (.cons (.int 1) (.cons (.int 1) .nil)))) (.cons (.tup (.cons (.var 1) (.cons (.int 1) .nil))) (.cons (.tup (.cons (.var 1) (.cons (.int 1) (.cons (.int 1) (.cons (.int 1) .nil))))) (.cons (.tup (.cons (.op .str (.cons (.var 1) .nil)) (.cons (.int 1) (.cons (.int 1) .nil)))) (.cons .non (.cons (.int 0) (.cons (.str []) (.cons (.tup .nil) (.cons .dnew (.cons (.tup (.cons .non (.cons (.int 1) (.cons (.int 1) .nil)))) .nil))))))))))) .nil)))) (.cons (.ret (.call 15 (.cons (.bor 0) (.cons (.op .add (.cons (.var 2) (.cons (.lst (.cons (.call 17 (.cons (.tup (.cons (.int 2000) (.cons (.int 1) (.cons (.int 1) .nil)))) (.cons (.int 12) .nil))) (.cons (.tup (.cons (.tup (.cons (.var 1) (.cons (.int 1) (.cons (.int 1) .nil)))) .nil)) (.cons (.str [50, 48, 48, 48, 45, 48, 49, 45, 48, 49]) (.cons (.tup (.cons (.var 1) (.cons (.int 1) (.cons (.bl true) .nil)))) .nil))))) .nil))) .nil)))) .nil)))))
def d_law_no_date : DefI := ⟨"_law_no_date", top 36, ["hand", "year", "odd"], ⟨1, 3, [0], b_law_no_date⟩, false⟩
def b_law_is_day : Ss := (.cons (.asg 1 (.call 20 (.cons (.var 0) .nil))) (.cons (.ite (.not (.call 16 (.cons (.lst (.cons (.call 10 (.cons (.var 0) .nil)) (.cons (.call 12 (.cons (.var 0) .nil)) (.cons (.call 11 (.cons (.var 1) .nil)) .nil)))) (.cons (.lst (.cons (.var 1) (.cons (.op .mod (.cons (.op .int (.cons (.var 1) .nil)) (.cons (.int 7) .nil))) (.cons (.var 0) .nil)))) .nil)))) (.cons (.ret (.bl false)) .nil) .nil) (.cons (.ite (.op .eq (.cons (.var 0) (.cons (.tup (.cons (.int 2999) (.cons (.int 12) (.cons (.int 31) .nil)))) .nil))) (.cons (.ret (.op .eq (.cons (.word 0 (.call 11 (.cons (.op .add (.cons (.var 1) (.cons (.int 1) .nil))) .nil))) (.cons (.tup (.cons (.int 1) .nil)) .nil)))) .nil) .nil) (.cons (.asg 2 (.call 21 (.cons (.var 0) .nil))) (.cons (.ret (.call 16 (.cons (.lst (.cons (.call 10 (.cons (.var 2) .nil)) (.cons (.call 12 (.cons (.var 2) .nil)) (.cons (.call 11 (.cons (.op .add (.cons (.var 1) (.cons (.int 1) .nil))) .nil)) .nil)))) (.cons (.lst (.cons (.op .add (.cons (.var 1) (.cons (.int 1) .nil))) (.cons (.op .mod (.cons (.op .int (.cons (.op .add (.cons (.var 1) (.cons (.int 1) .nil))) .nil)) (.cons (.int 7) .nil))) (.cons (.var 2) .nil)))) .nil)))) .nil)))))
def d_law_is_day : DefI := ⟨"_law_is_day", top 38, ["date", "number", "later"], ⟨1, 3, [], b_law_is_day⟩, true⟩
def b_law_refused_right : Ss := (.cons (.asg 1 (.call 23 (.cons (.bor 0) .nil))) (.cons (.asg 2 (.call 20 (.cons (.tup (.cons (.int 2999) (.cons (.int 12) (.cons (.int 31) .nil)))) .nil))) (.cons (.asg 3 (.call 15 (.cons (.bor 0) (.cons (.lst (.cons (.op .neg (.cons (.int 1) .nil)) (.cons (.op .add (.cons (.var 2) (.cons (.int 1) .nil))) (.cons (.bl true) (.cons .non (.cons (.str [48]) (.cons (.tup (.cons (.int 0) .nil)) (.cons (.lst .nil) (.cons (.op .pow (.cons (.int 10) (.cons (.int 11) .nil))) (.cons .dnew (.cons (.call 17 (.cons (.int 0) (.cons (.int 12) .nil))) .nil))))))))))) .nil)))) (.cons (.asgO 4 (.lst (.cons (.word 0 (.call 10 (.cons (.var 1) .nil))) .nil))) (.cons (.app 4 (.word 0 (.call 12 (.cons (.var 1) .nil)))) (.cons (.app 4 (.word 0 (.call 11 (.cons (.var 3) .nil)))) (.cons (.ret (.op .eq (.cons (.bor 4) (.cons (.lst (.cons (.tup (.cons (.int 0) .nil)) (.cons (.tup (.cons (.int 0) .nil)) (.cons (.tup (.cons (.int 1) .nil)) .nil)))) .nil)))) .nil)))))))
def d_law_refused_right : DefI := ⟨"_law_refused_right", top 39, ["hand", "odd", "last", "no_number", "words"], ⟨1, 5, [0], b_law_refused_right⟩, true⟩
def b_law_is_known : Ss := (.cons (.asg 0 (.lst (.cons (.call 10 (.cons (.tup (.cons (.int 1900) (.cons (.int 1) (.cons (.int 1) .nil)))) .nil)) (.cons (.call 12 (.cons (.tup (.cons (.int 1900) (.cons (.int 1) (.cons (.int 1) .nil)))) .nil)) (.cons (.call 10 (.cons (.tup (.cons (.int 2000) (.cons (.int 3) (.cons (.int 1) .nil)))) .nil)) (.cons (.call 12 (.cons (.tup (.cons (.int 2000) (.cons (.int 3) (.cons (.int 1) .nil)))) .nil)) .nil)))))) (.cons (.asg 0 (.op .add (.cons (.var 0) (.cons (.lst (.cons (.call 11 (.cons (.int 0) .nil)) (.cons (.call 11 (.cons (.int 59) .nil)) (.cons (.call 11 (.cons (.int 36583) .nil)) (.cons (.call 12 (.cons (.tup (.cons (.int 1970) (.cons (.int 1) (.cons (.int 1) .nil)))) .nil)) (.cons (.call 10 (.cons (.tup (.cons (.int 1970) (.cons (.int 1) (.cons (.int 1) .nil)))) .nil)) .nil)))))) .nil)))) (.cons (.ret (.call 16 (.cons (.var 0) (.cons (.lst (.cons (.int 0) (.cons (.int 0) (.cons (.int 36584) (.cons (.int 2) (.cons (.tup (.cons (.int 1900) (.cons (.int 1) (.cons (.int 1) .nil)))) (.cons (.tup (.cons (.int 1900) (.cons (.int 3) (.cons (.int 1) .nil)))) (.cons (.tup (.cons (.int 2000) (.cons (.int 2) (.cons (.int 29) .nil)))) (.cons (.int 3) (.cons (.int 25567) .nil)))))))))) .nil)))) .nil)))
def d_law_is_known : DefI := ⟨"_law_is_known", top 40, ["found"], ⟨0, 1, [], b_law_is_known⟩, false⟩
def b_law : Ss := (.cons (.asgO 1 (.call 13 (.cons (.var 0) .nil))) (.cons (.for (.name 2) (.range (.cons (.int 20) .nil)) (.cons (.ite (.or (.cons (.not (.call 24 (.cons (.call 22 (.cons (.bor 1) .nil)) .nil))) (.cons (.not (.call 25 (.cons (.bor 1) .nil))) .nil))) (.cons (.ret (.bl false)) .nil) .nil) .nil)) (.cons (.asg 3 (.call 14 (.cons (.bor 1) (.cons (.call 20 (.cons (.tup (.cons (.int 2999) (.cons (.int 12) (.cons (.int 31) .nil)))) .nil)) .nil)))) (.cons (.ret (.and (.cons (.call 16 (.cons (.call 10 (.cons (.call 11 (.cons (.var 3) .nil)) .nil)) (.cons (.var 3) .nil))) (.cons (.call 24 (.cons (.tup (.cons (.int 2999) (.cons (.int 12) (.cons (.int 31) .nil)))) .nil)) (.cons (.call 26 .nil) .nil))))) .nil))))
def d_law : DefI := ⟨"law", top 41, ["script", "hand", "turn", "number"], ⟨1, 4, [], b_law⟩, false⟩
def law_ : LawI := ⟨[d_is_plain_integer, d_is_integer, d_is_number, d_is_leap, d_month_days, d_is_date, d_leaps_until, d_days_ahead, d_number_of, d_raw_date, d_day_number, d_date_of, d_weekday, d_law_hand, d_law_draw, d_law_some, d_law_is, d_law_deep, d_law_is_leap, d_law_month, d_law_number, d_law_next, d_law_date, d_law_no_date, d_law_is_day, d_law_refused_right, d_law_is_known, d_law], [("FIRST_YEAR", (.int 1900)), ("LAST_YEAR", (.int 2999)), ("DAYS_A_WEEK", (.int 7)), ("MONTHS", (.tup [(.int 31), (.int 28), (.int 31), (.int 30), (.int 31), (.int 30), (.int 31), (.int 31), (.int 30), (.int 31), (.int 30), (.int 31)]))], ["HourError", "NoNumber", "NoDate"], "HourError", inClass (top 1) 0, [⟨"_law_word", top 35, "_law_flags", top 37, ["NoDate", "NoNumber"], "HourError"⟩]⟩
theorem s_is_plain_integer : DefS law_ d_is_plain_integer := ⟨by decide +kernel, by decide +kernel, fun _ _ _ _ _ _ us hl => match us, hl with | [_], _ => rfl⟩
theorem s_is_integer : DefS law_ d_is_integer := ⟨by decide +kernel, by decide +kernel, fun _ _ _ _ _ _ us hl => match us, hl with | [_], _ => rfl⟩
theorem s_is_number : DefS law_ d_is_number := ⟨by decide +kernel, by decide +kernel, fun _ _ _ _ _ _ us hl => match us, hl with | [_], _ => rfl⟩
theorem s_is_leap : DefS law_ d_is_leap := ⟨by decide +kernel, by decide +kernel, fun _ _ _ _ _ _ us hl => match us, hl with | [_], _ => rfl⟩
theorem s_month_days : DefS law_ d_month_days := ⟨by decide +kernel, by decide +kernel, fun _ _ _ _ _ _ us hl => match us, hl with | [_, _], _ => rfl⟩
theorem s_is_date : DefS law_ d_is_date := ⟨by decide +kernel, by decide +kernel, fun _ _ _ _ _ _ us hl => match us, hl with | [_], _ => rfl⟩
theorem s_leaps_until : DefS law_ d_leaps_until := ⟨by decide +kernel, by decide +kernel, fun _ _ _ _ _ _ us hl => match us, hl with | [_], _ => rfl⟩
theorem s_days_ahead : DefS law_ d_days_ahead := ⟨by decide +kernel, by decide +kernel, fun _ _ _ _ _ _ us hl => match us, hl with | [_], _ => rfl⟩
theorem s_number_of : DefS law_ d_number_of := ⟨by decide +kernel, by decide +kernel, fun _ _ _ _ _ _ us hl => match us, hl with | [_], _ => rfl⟩
theorem s_raw_date : DefS law_ d_raw_date := ⟨by decide +kernel, by decide +kernel, fun _ _ _ _ _ _ us hl => match us, hl with | [_], _ => rfl⟩
theorem s_day_number : DefS law_ d_day_number := ⟨by decide +kernel, by decide +kernel, fun _ _ _ _ _ _ us hl => match us, hl with | [_], _ => rfl⟩
theorem s_date_of : DefS law_ d_date_of := ⟨by decide +kernel, by decide +kernel, fun _ _ _ _ _ _ us hl => match us, hl with | [_], _ => rfl⟩
theorem s_weekday : DefS law_ d_weekday := ⟨by decide +kernel, by decide +kernel, fun _ _ _ _ _ _ us hl => match us, hl with | [_], _ => rfl⟩
theorem s_law_hand : DefS law_ d_law_hand := ⟨by decide +kernel, by decide +kernel, fun _ _ _ _ _ _ us hl => match us, hl with | [_], _ => rfl⟩
theorem s_law_draw : DefS law_ d_law_draw := ⟨by decide +kernel, by decide +kernel, fun _ _ _ _ _ _ us hl => match us, hl with | [_, _], _ => rfl⟩
theorem s_law_some : DefS law_ d_law_some := ⟨by decide +kernel, by decide +kernel, fun _ _ _ _ _ _ us hl => match us, hl with | [_, _], _ => rfl⟩
theorem s_law_is : DefS law_ d_law_is := ⟨by decide +kernel, by decide +kernel, fun _ _ _ _ _ _ us hl => match us, hl with | [_, _], _ => rfl⟩
theorem s_law_deep : DefS law_ d_law_deep := ⟨by decide +kernel, by decide +kernel, fun _ _ _ _ _ _ us hl => match us, hl with | [_, _], _ => rfl⟩
theorem s_law_is_leap : DefS law_ d_law_is_leap := ⟨by decide +kernel, by decide +kernel, fun _ _ _ _ _ _ us hl => match us, hl with | [_], _ => rfl⟩
theorem s_law_month : DefS law_ d_law_month := ⟨by decide +kernel, by decide +kernel, fun _ _ _ _ _ _ us hl => match us, hl with | [_, _], _ => rfl⟩
theorem s_law_number : DefS law_ d_law_number := ⟨by decide +kernel, by decide +kernel, fun _ _ _ _ _ _ us hl => match us, hl with | [_], _ => rfl⟩
theorem s_law_next : DefS law_ d_law_next := ⟨by decide +kernel, by decide +kernel, fun _ _ _ _ _ _ us hl => match us, hl with | [_], _ => rfl⟩
theorem s_law_date : DefS law_ d_law_date := ⟨by decide +kernel, by decide +kernel, fun _ _ _ _ _ _ us hl => match us, hl with | [_], _ => rfl⟩
theorem s_law_no_date : DefS law_ d_law_no_date := ⟨by decide +kernel, by decide +kernel, fun _ _ _ _ _ _ us hl => match us, hl with | [_], _ => rfl⟩
theorem s_law_is_day : DefS law_ d_law_is_day := ⟨by decide +kernel, by decide +kernel, fun _ _ _ _ _ _ us hl => match us, hl with | [_], _ => rfl⟩
theorem s_law_refused_right : DefS law_ d_law_refused_right := ⟨by decide +kernel, by decide +kernel, fun _ _ _ _ _ _ us hl => match us, hl with | [_], _ => rfl⟩
theorem s_law_is_known : DefS law_ d_law_is_known := ⟨by decide +kernel, by decide +kernel, fun _ _ _ _ _ _ us hl => match us, hl with | [], _ => rfl⟩
theorem s_law : DefS law_ d_law := ⟨by decide +kernel, by decide +kernel, fun _ _ _ _ _ _ us hl => match us, hl with | [_], _ => rfl⟩
def wpos : List Pos := [⟨118, 4, 118, 9⟩, ⟨118, 13, 118, 20⟩, ⟨118, 12, 118, 22⟩, ⟨118, 4, 118, 22⟩, ⟨120, 8, 120, 13⟩, ⟨120, 17, 120, 23⟩, ⟨120, 25, 120, 29⟩, ⟨120, 25, 120, 31⟩, ⟨120, 16, 120, 32⟩, ⟨120, 8, 120, 32⟩, ⟨121, 11, 121, 20⟩, ⟨122, 8, 122, 13⟩, ⟨122, 16, 122, 26⟩, ⟨122, 27, 122, 32⟩, ⟨122, 16, 122, 33⟩, ⟨122, 8, 122, 33⟩, ⟨123, 11, 123, 16⟩, ⟨123, 11, 123, 22⟩, ⟨123, 23, 123, 27⟩, ⟨123, 11, 123, 28⟩, ⟨123, 32, 123, 33⟩, ⟨123, 11, 123, 33⟩, ⟨123, 38, 123, 48⟩, ⟨123, 49, 123, 54⟩, ⟨123, 56, 123, 66⟩, ⟨123, 38, 123, 67⟩, ⟨123, 11, 123, 67⟩, ⟨124, 12, 124, 17⟩, ⟨124, 21, 124, 26⟩, ⟨124, 21, 124, 32⟩, ⟨124, 33, 124, 37⟩, ⟨124, 21, 124, 38⟩, ⟨124, 20, 124, 40⟩, ⟨124, 12, 124, 40⟩, ⟨123, 8, 124, 40⟩, ⟨121, 4, 124, 40⟩, ⟨119, 4, 124, 40⟩, ⟨125, 11, 125, 16⟩, ⟨125, 4, 125, 16⟩]
theorem s_words : ∀ w ∈ law_.words, WordS w := by
  intro w hw
  simp only [law_, List.mem_cons, List.not_mem_nil, or_false] at hw
  subst hw
  exact {
    body := ⟨fun n => wpos.getD n ⟨0, 0, 0, 0⟩, fun _ => 0, rfl, by decide +kernel, by decide +kernel⟩
    sc := by decide +kernel
    bnd := fun _ _ _ _ _ _ us hl => match us, hl with | [_], _ => rfl
    fbody := ⟨_, _, _, rfl, by decide +kernel⟩
    fsc := by decide +kernel
    fbnd := fun _ _ _ _ _ _ us hl => match us, hl with | [_], _ => rfl }
theorem s_init : InitS law_ where
  body := ⟨_, _, _, _, _, rfl, by decide +kernel⟩
  sc := by decide +kernel
  bnd := fun _ _ _ _ _ _ us hl => match us, hl with | [_], _ => rfl
theorem lawS : LawS law_ where
  defs := by
    intro d hd
    simp only [law_, List.mem_cons, List.not_mem_nil, or_false] at hd
    rcases hd with rfl | rfl | rfl | rfl | rfl | rfl | rfl | rfl | rfl | rfl | rfl | rfl | rfl | rfl | rfl | rfl | rfl | rfl | rfl | rfl | rfl | rfl | rfl | rfl | rfl | rfl | rfl | rfl
    · exact s_is_plain_integer
    · exact s_is_integer
    · exact s_is_number
    · exact s_is_leap
    · exact s_month_days
    · exact s_is_date
    · exact s_leaps_until
    · exact s_days_ahead
    · exact s_number_of
    · exact s_raw_date
    · exact s_day_number
    · exact s_date_of
    · exact s_weekday
    · exact s_law_hand
    · exact s_law_draw
    · exact s_law_some
    · exact s_law_is
    · exact s_law_deep
    · exact s_law_is_leap
    · exact s_law_month
    · exact s_law_number
    · exact s_law_next
    · exact s_law_date
    · exact s_law_no_date
    · exact s_law_is_day
    · exact s_law_refused_right
    · exact s_law_is_known
    · exact s_law
  words := s_words
  init := fun _ => s_init
  gld := by decide +kernel
end K73
end
section
set_option Elab.async false
set_option linter.all false
set_option maxRecDepth 100000
set_option maxHeartbeats 0
namespace K73
open PySem PySem.Spec PyProof.Rows L2 Py
abbrev R : PySem.W.OpenRow := PySem.W.OpenLaw.row PySem.Challenge.rw_hourwright_k73_days_and_dates
abbrev hk : PySem.W.Hook := He.hookX 6 law_.fa law_.fn [] law_.tf (exB law_)
def ob (s : PySem.W.SharedT) : He.AlX := He.obsX 6 law_.fa law_.fn [] law_.tf (exB law_) (HandSHeadRun.getT s)
theorem ob_eq (s : PySem.W.SharedT) : ob s = hk.obs s.abs := He.obsX_eq (HandSHeadRun.getT_eq s)
def names : List PySem.Str := ([PySem.Str.ofString "__name__", PySem.Str.ofString "HourError", PySem.Str.ofString "NoNumber", PySem.Str.ofString "NoDate", PySem.Str.ofString "is_plain_integer", PySem.Str.ofString "is_integer", PySem.Str.ofString "is_number", PySem.Str.ofString "FIRST_YEAR", PySem.Str.ofString "LAST_YEAR", PySem.Str.ofString "DAYS_A_WEEK", PySem.Str.ofString "MONTHS", PySem.Str.ofString "is_leap", PySem.Str.ofString "month_days", PySem.Str.ofString "is_date", PySem.Str.ofString "leaps_until"] : List PySem.Str) ++ ([PySem.Str.ofString "days_ahead", PySem.Str.ofString "number_of", PySem.Str.ofString "raw_date", PySem.Str.ofString "day_number", PySem.Str.ofString "date_of", PySem.Str.ofString "weekday", PySem.Str.ofString "_law_hand", PySem.Str.ofString "_law_draw", PySem.Str.ofString "_law_some", PySem.Str.ofString "_law_is", PySem.Str.ofString "_law_deep", PySem.Str.ofString "_law_is_leap", PySem.Str.ofString "_law_month", PySem.Str.ofString "_law_number", PySem.Str.ofString "_law_next"] : List PySem.Str) ++ ([PySem.Str.ofString "_law_date", PySem.Str.ofString "_law_word", PySem.Str.ofString "_law_no_date", PySem.Str.ofString "_law_flags", PySem.Str.ofString "_law_is_day", PySem.Str.ofString "_law_refused_right", PySem.Str.ofString "_law_is_known"] : List PySem.Str)
theorem run (w : PySem.World) : HandSHeadRun.RunEq R (PySem.W.view R.prog [41]) hk ob 3000 names w := by
  intro os
  kernel_rfl
end K73
end
section
set_option Elab.async false
set_option linter.all false
set_option maxRecDepth 100000
set_option maxHeartbeats 4000000
/-! k73: dates, plainly. -/
namespace K73
open Py
@[simp] theorem g0 (c) : (law_.cfg c).gl 0 = .int 1900 := (rfl)
@[simp] theorem g1 (c) : (law_.cfg c).gl 1 = .int 2999 := (rfl)
@[simp] theorem g2 (c) : (law_.cfg c).gl 2 = .int 7 := (rfl)
@[simp] theorem g3 (c) : (law_.cfg c).gl 3 = .tup [.int 31, .int 28, .int 31, .int 30, .int 31, .int 30, .int 31, .int 31, .int 30, .int 31, .int 30, .int 31] := (rfl)
@[simp] theorem cfg_call (L : LawI) (c) : (L.cfg c).call = c := (rfl)
theorem r0 (n os) : law_.run (n+1) 0 os = callF (law_.cfg (law_.run n)) d_is_plain_integer.fi os := rfl
theorem r1 (n os) : law_.run (n+1) 1 os = callF (law_.cfg (law_.run n)) d_is_integer.fi os := rfl
theorem r2 (n os) : law_.run (n+1) 2 os = callF (law_.cfg (law_.run n)) d_is_number.fi os := rfl
theorem r3 (n os) : law_.run (n+1) 3 os = callF (law_.cfg (law_.run n)) d_is_leap.fi os := rfl
theorem r4 (n os) : law_.run (n+1) 4 os = callF (law_.cfg (law_.run n)) d_month_days.fi os := rfl
theorem r5 (n os) : law_.run (n+1) 5 os = callF (law_.cfg (law_.run n)) d_is_date.fi os := rfl
theorem r6 (n os) : law_.run (n+1) 6 os = callF (law_.cfg (law_.run n)) d_leaps_until.fi os := rfl
theorem r7 (n os) : law_.run (n+1) 7 os = callF (law_.cfg (law_.run n)) d_days_ahead.fi os := rfl
theorem r8 (n os) : law_.run (n+1) 8 os = callF (law_.cfg (law_.run n)) d_number_of.fi os := rfl
theorem r9 (n os) : law_.run (n+1) 9 os = callF (law_.cfg (law_.run n)) d_raw_date.fi os := rfl
theorem r10 (n os) : law_.run (n+1) 10 os = callF (law_.cfg (law_.run n)) d_day_number.fi os := rfl
theorem r11 (n os) : law_.run (n+1) 11 os = callF (law_.cfg (law_.run n)) d_date_of.fi os := rfl
theorem r12 (n os) : law_.run (n+1) 12 os = callF (law_.cfg (law_.run n)) d_weekday.fi os := rfl
def leap (y : Int) : Bool := decide (y % 4 = 0) && decide (y % 100 ≠ 0) || decide (y % 400 = 0)
@[simp] theorem run_leap (n : Nat) (y : Int) : law_.run (n+1) 3 [.v (.int y)] = .ret (.v (.bl (leap y))) [.v (.int y)] := by
  rw [r3, callF_end _ _ _ rfl rfl]
  simp [d_is_leap, b_is_leap, leap]
def mdays (y m : Int) : Int := (if m = 2 then 28 else if m = 4 ∨ m = 6 ∨ m = 9 ∨ m = 11 then 30 else 31) + if m = 2 ∧ leap y = true then 1 else 0
theorem run_mdays (n : Nat) (y m : Int) (h1 : 1 ≤ m) (h2 : m ≤ 12) : law_.run (n+2) 4 [.v (.int y), .v (.int m)] = .ret (.v (.int (mdays y m))) [.v (.int y), .v (.int m)] := by
  rw [r4, callF_end _ _ _ rfl rfl]
  have : m = 1 ∨ m = 2 ∨ m = 3 ∨ m = 4 ∨ m = 5 ∨ m = 6 ∨ m = 7 ∨ m = 8 ∨ m = 9 ∨ m = 10 ∨ m = 11 ∨ m = 12 := by omega
  rcases this with rfl | rfl | rfl | rfl | rfl | rfl | rfl | rfl | rfl | rfl | rfl | rfl <;> simp [d_month_days, b_month_days, run_leap, mdays, atD, ixD]
@[simp] theorem run_plain (n : Nat) (d : D) : law_.run (n+1) 0 [.v d] = .ret (.v (.bl (isTy .int d && !isTy .bool d))) [.v d] := by
  rw [r0, callF_end _ _ _ rfl rfl]
  simp [d_is_plain_integer, b_is_plain_integer]
@[simp] theorem run_isint (n : Nat) (d : D) : law_.run (n+1) 1 [.v d] = .ret (.v (.bl (isTy .int d && !isTy .bool d))) [.v d] := by
  rw [r1, callF_end _ _ _ rfl rfl]
  simp [d_is_integer, b_is_integer]
@[simp] theorem run_isnum (n : Nat) (i : Int) : law_.run (n+2) 2 [.v (.int i)] = .ret (.v (.bl (decide (0 ≤ i)))) [.v (.int i)] := by
  rw [r2, callF_end _ _ _ rfl rfl]
  simp [d_is_number, b_is_number]
theorem run_nonum (n : Nat) (d : D) (h : (isTy .int d && !isTy .bool d) = false) : law_.run (n+2) 2 [.v d] = .ret (.v (.bl false)) [.v d] := by
  rw [r2, callF_end _ _ _ rfl rfl]
  simp [d_is_number, b_is_number, h]
def leaps (y : Int) : Int := y / 4 - y / 100 + y / 400
def ahead (y : Int) : Int := 365 * (y - 1900) + leaps (y - 1) - 460
@[simp] theorem run_leaps (n : Nat) (y : Int) : law_.run (n+1) 6 [.v (.int y)] = .ret (.v (.int (leaps y))) [.v (.int y)] := by
  rw [r6, callF_end _ _ _ rfl rfl]
  simp [d_leaps_until, b_leaps_until, leaps]
@[simp] theorem run_ahead (n : Nat) (y : Int) : law_.run (n+2) 7 [.v (.int y)] = .ret (.v (.int (ahead y))) [.v (.int y)] := by
  rw [r7, callF_end _ _ _ rfl rfl]
  simp [d_days_ahead, b_days_ahead, ahead, leaps, mulOk]
def cum (y m : Int) : Int := if m = 1 then 0 else if m = 2 then 31 else (if m = 3 then 59 else if m = 4 then 90 else if m = 5 then 120 else if m = 6 then 151 else if m = 7 then 181 else if m = 8 then 212 else if m = 9 then 243 else if m = 10 then 273 else if m = 11 then 304 else 334) + if leap y = true then 1 else 0
theorem cum_next (y m : Int) (h1 : 1 ≤ m) (h2 : m ≤ 11) : cum y (m + 1) = cum y m + mdays y m := by
  have : m = 1 ∨ m = 2 ∨ m = 3 ∨ m = 4 ∨ m = 5 ∨ m = 6 ∨ m = 7 ∨ m = 8 ∨ m = 9 ∨ m = 10 ∨ m = 11 := by omega
  rcases this with rfl | rfl | rfl | rfl | rfl | rfl | rfl | rfl | rfl | rfl | rfl <;> cases h : leap y <;> simp [cum, mdays, h]
theorem mdays_pos (y m : Int) : 28 ≤ mdays y m ∧ mdays y m ≤ 31 := by
  unfold mdays
  split
  · split <;> omega
  · split
    · split <;> omega
    · split <;> omega
structure Valid (y m d : Int) : Prop where
  y1 : 1900 ≤ y
  y2 : y ≤ 2999
  m1 : 1 ≤ m
  m2 : m ≤ 12
  d1 : 1 ≤ d
  d2 : d ≤ mdays y m
def num (y m d : Int) : Int := ahead y + cum y m + d - 1
def date (y m d : Int) : D := .tup [.int y, .int m, .int d]
theorem run_isdate (n : Nat) {y m d : Int} (v : Valid y m d) : law_.run (n+4) 5 [.v (date y m d)] = .ret (.v (.bl true)) [.v (date y m d)] := by
  rw [r5, callF_end _ _ _ rfl rfl]
  have := run_mdays (n+1) y m v.m1 v.m2
  have h1 := v.y1
  have h2 := v.y2
  have h3 := v.m1
  have h4 := v.m2
  have h5 := v.d1
  have h6 := v.d2
  simp [d_is_date, b_is_date, date, lcR_un, lc_nil, lc_cons, lc_step, asBools, sem_all, this, h1, h2, h3, h4, h5, h6]
end K73
end
section
set_option Elab.async false
set_option linter.all false
set_option maxRecDepth 100000
set_option maxHeartbeats 4000000
/-! k73: sums of months, numbers, not dates. -/
namespace K73
open Py
theorem r18 (n os) : law_.run (n+1) 18 os = callF (law_.cfg (law_.run n)) d_law_is_leap.fi os := rfl
theorem r19 (n os) : law_.run (n+1) 19 os = callF (law_.cfg (law_.run n)) d_law_month.fi os := rfl
theorem r20 (n os) : law_.run (n+1) 20 os = callF (law_.cfg (law_.run n)) d_law_number.fi os := rfl
theorem r21 (n os) : law_.run (n+1) 21 os = callF (law_.cfg (law_.run n)) d_law_next.fi os := rfl
@[simp] theorem run_lleap (n : Nat) (y : Int) : law_.run (n+1) 18 [.v (.int y)] = .ret (.v (.bl (leap y))) [.v (.int y)] := by
  rw [r18, callF_end _ _ _ rfl rfl]
  simp [d_law_is_leap, b_law_is_leap, leap]
  by_cases h4 : y % 4 = 0
  · by_cases h1 : y % 100 = 0
    · simp [h4, h1]
    · simp [h4, h1]
  · have : y % 400 ≠ 0 := by omega
    simp [h4, this]
theorem run_lmonth (n : Nat) (y m : Int) (h1 : 1 ≤ m) (h2 : m ≤ 12) : law_.run (n+2) 19 [.v (.int y), .v (.int m)] = .ret (.v (.int (mdays y m))) [.v (.int y), .v (.int m)] := by
  rw [r19, callF_end _ _ _ rfl rfl]
  have : m = 1 ∨ m = 2 ∨ m = 3 ∨ m = 4 ∨ m = 5 ∨ m = 6 ∨ m = 7 ∨ m = 8 ∨ m = 9 ∨ m = 10 ∨ m = 11 ∨ m = 12 := by omega
  cases hl : leap y <;> rcases this with rfl | rfl | rfl | rfl | rfl | rfl | rfl | rfl | rfl | rfl | rfl | rfl <;> simp [d_law_month, b_law_month, run_lleap, mdays, atD, ixD, hl]
theorem mem_range : ∀ (k : Nat) (lo : Int) (x : D), x ∈ rangeL lo k → ∃ i : Int, x = .int i ∧ lo ≤ i ∧ i < lo + k
  | 0, _, _, h => nomatch h
  | k + 1, lo, x, h => by
    rcases List.mem_cons.mp h with rfl | h
    · exact ⟨lo, rfl, by omega, by omega⟩
    · obtain ⟨i, rfl, h1, h2⟩ := mem_range k (lo + 1) x h
      exact ⟨i, rfl, by omega, by omega⟩
theorem len_range : ∀ (k : Nat) (lo : Int), (rangeL lo k).length = k
  | 0, _ => rfl
  | k + 1, lo => congrArg (· + 1) (len_range k (lo + 1))
/-- the int that a value is -/
def iOf : D → Int
  | .int i => i
  | _ => 0
theorem sum_range (y : Int) : ∀ (k : Nat) (lo : Int), 1 ≤ lo → lo + k ≤ 12 → sumK (asInts ((rangeL lo k).map fun x => .int (mdays y (iOf x)))) = some (.int (cum y (lo + k) - cum y lo))
  | 0, lo, _, _ => by simp [rangeL]
  | k + 1, lo, h, h' => by
    have ih := sum_range y k (lo + 1) (by omega) (by omega)
    have e := cum_next y lo h (by omega)
    show sumK ((asInts ((rangeL (lo + 1) k).map fun x => .int (mdays y (iOf x)))).map (mdays y lo :: ·)) = _
    cases ha : asInts ((rangeL (lo + 1) k).map fun x => D.int (mdays y (iOf x))) with
    | none => rw [ha] at ih; cases ih
    | some l =>
      rw [ha] at ih
      simp at ih
      simp [ih]
      have : lo + 1 + (k : Int) = lo + (k + 1) := by omega
      rw [this]
      omega
theorem run_number (n : Nat) {y m d : Int} (v : Valid y m d) : law_.run (n+3) 8 [.v (date y m d)] = .ret (.v (.int (num y m d))) [.v (date y m d)] := by
  rw [r8, callF_end _ _ _ rfl rfl]
  have hm1 := v.m1
  have hm2 := v.m2
  have hr : ∃ k : Nat, m = 1 + k ∧ (m - 1).toNat = k := ⟨(m - 1).toNat, by omega, rfl⟩
  obtain ⟨k, rfl, hk⟩ := hr
  have hs := sum_range y k 1 (by omega) (by omega)
  have hl : lcR (.name 4) [4] (testAll (law_.cfg (law_.run (n+2))) .nil) (evalE (law_.cfg (law_.run (n+2))) (.call 4 (.cons (.var 1) (.cons (.var 4) .nil)))) (.ok (rangeL 1 k) [.v (date y (1 + k) d), .v (.int y), .v (.int (1 + k)), .v (.int d), .un]) = .ok ((rangeL 1 k).map fun x => .int (mdays y (iOf x))) [.v (date y (1 + k) d), .v (.int y), .v (.int (1 + k)), .v (.int d), .un] := by
    refine lc_map _ (fun x => [.v (date y (1 + k) d), .v (.int y), .v (.int (1 + k)), .v (.int d), .v x]) ?_ ?_ (by simp) ?_ ?_
    · intro x hx
      obtain ⟨i, rfl, h1, h2⟩ := mem_range _ _ _ hx
      have := run_mdays n y i h1 (by omega)
      simp [this, iOf]
    · intro x hx
      simp
    · intro x hx
      simp
    · rw [len_range]
      simp
      omega
  have h1 : (1 : Int) + k < 2 ^ 62 := by omega
  have h2 : -(2:Int) ^ 62 ≤ 1 + k := by omega
  have e0 : cum y 1 = 0 := by simp [cum]
  simp only [date] at hl
  simp [d_number_of, b_number_of, date]
  rw [range_to 1 (1 + k) k rfl (by omega) (by omega)]
  simp [hl, hs, num, e0]
theorem run_lnumber (n : Nat) {y m d : Int} (v : Valid y m d) : law_.run (n+3) 20 [.v (date y m d)] = .ret (.v (.int (num y m d))) [.v (date y m d)] := by
  rw [r20, callF_end _ _ _ rfl rfl]
  have hm1 := v.m1
  have hm2 := v.m2
  have hr : ∃ k : Nat, m = 1 + k ∧ (m - 1).toNat = k := ⟨(m - 1).toNat, by omega, rfl⟩
  obtain ⟨k, rfl, hk⟩ := hr
  have hs := sum_range y k 1 (by omega) (by omega)
  have hl (a b : D) : lcR (.name 6) [6] (testAll (law_.cfg (law_.run (n+2))) .nil) (evalE (law_.cfg (law_.run (n+2))) (.call 19 (.cons (.var 3) (.cons (.var 6) .nil)))) (.ok (rangeL 1 k) [.v (date y (1 + k) d), .v a, .v b, .v (.int y), .v (.int (1 + k)), .v (.int d), .un]) = .ok ((rangeL 1 k).map fun x => .int (mdays y (iOf x))) [.v (date y (1 + k) d), .v a, .v b, .v (.int y), .v (.int (1 + k)), .v (.int d), .un] := by
    refine lc_map _ (fun x => [.v (date y (1 + k) d), .v a, .v b, .v (.int y), .v (.int (1 + k)), .v (.int d), .v x]) ?_ ?_ (by simp) ?_ ?_
    · intro x hx
      obtain ⟨i, rfl, h1, h2⟩ := mem_range _ _ _ hx
      have := run_lmonth n y i h1 (by omega)
      simp [this, iOf]
    · intro x hx
      simp
    · intro x hx
      simp
    · rw [len_range]
      simp
      omega
  have e0 : cum y 1 = 0 := by simp [cum]
  simp only [date] at hl
  simp [d_law_number, b_law_number, date, mulOk]
  rw [range_to 1 (1 + k) k rfl (by omega) (by omega)]
  simp [hl, hs, num, e0, ahead, leaps]
  omega
end K73
end
section
set_option Elab.async false
set_option linter.all false
set_option maxRecDepth 100000
set_option maxHeartbeats 4000000
/-! k73: a number's date. -/
namespace K73
open Py
theorem ahead_next (y : Int) : ahead (y + 1) = ahead y + 365 + if leap y = true then 1 else 0 := by
  unfold ahead leaps leap
  rw [show y + 1 - 1 = y from by omega]
  by_cases h4 : y % 4 = 0
  · by_cases h1 : y % 100 = 0
    · by_cases h2 : y % 400 = 0
      · simp [h4, h1, h2]
        omega
      · simp [h4, h1, h2]
        omega
    · simp [h4, h1]
      omega
  · have : y % 400 ≠ 0 := by omega
    simp [h4, this]
    omega
theorem ahead_mono {a b : Int} (h : a ≤ b) : ahead a ≤ ahead b := by
  unfold ahead leaps
  omega
theorem cum_end (y m : Int) (h1 : 1 ≤ m) (h2 : m ≤ 12) : 0 ≤ cum y m ∧ cum y m + mdays y m ≤ 365 + if leap y = true then 1 else 0 := by
  have : m = 1 ∨ m = 2 ∨ m = 3 ∨ m = 4 ∨ m = 5 ∨ m = 6 ∨ m = 7 ∨ m = 8 ∨ m = 9 ∨ m = 10 ∨ m = 11 ∨ m = 12 := by omega
  rcases this with rfl | rfl | rfl | rfl | rfl | rfl | rfl | rfl | rfl | rfl | rfl | rfl <;> cases h : leap y <;> simp [cum, mdays, h]
theorem cum_mono (y : Int) : ∀ (k : Nat) (m : Int), 1 ≤ m → m + k ≤ 12 → cum y m ≤ cum y (m + k)
  | 0, m, _, _ => by simp
  | k + 1, m, h, h' => by
    have := cum_mono y k m h (by omega)
    have e := cum_next y (m + k) (by omega) (by omega)
    have p := (mdays_pos y (m + k)).1
    rw [show m + ((k + 1 : Nat) : Int) = m + k + 1 from by omega]
    omega
theorem num_in {y m d : Int} (v : Valid y m d) : ahead y ≤ num y m d ∧ num y m d < ahead (y + 1) := by
  have h1 := v.d1
  have h2 := v.d2
  have := cum_end y m v.m1 v.m2
  rw [ahead_next]
  unfold num
  omega
theorem ahead_pos {y : Int} (h : 1900 ≤ y) : 0 ≤ ahead y := by
  unfold ahead leaps
  omega
def cY : E := .op .le (.cons (.call 7 (.cons (.op .add (.cons (.var 1) (.cons (.int 1) .nil))) .nil)) (.cons (.var 0) .nil))
def bY : Ss := .cons (.aug 1 .add (.int 1)) .nil
theorem yloop (n : Nat) (N y : Int) (h : ahead y ≤ N) (h' : N < ahead (y + 1)) : ∀ (k f : Nat), k < f → ∀ y0, y0 + k = y →
    whileN (evalE (law_.cfg (law_.run (n+2))) cY) (execs (law_.cfg (law_.run (n+2))) bY) f [.v (.int N), .v (.int y0), .un, .un] = .ok .nxt [.v (.int N), .v (.int y), .un, .un]
  | _, 0, hk, _, _ => absurd hk (by omega)
  | 0, f + 1, _, y0, e => by
    have : y0 = y := by omega
    subst this
    rw [whl_step]
    simp [cY]
    omega
  | k + 1, f + 1, hk, y0, e => by
    have ih := yloop n N y h h' k f (by omega) (y0 + 1) (by omega)
    have : ahead (y0 + 1) ≤ N := Int.le_trans (ahead_mono (by omega)) h
    rw [whl_step]
    simp [cY, this]
    simp [bY]
    exact ih
def cM : E := .op .ge (.cons (.var 2) (.cons (.call 4 (.cons (.var 1) (.cons (.var 3) .nil))) .nil))
def bM : Ss := .cons (.aug 2 .sub (.call 4 (.cons (.var 1) (.cons (.var 3) .nil)))) (.cons (.aug 3 .add (.int 1)) .nil)
theorem mloop (n : Nat) {N y m d : Int} (v : Valid y m d) : ∀ (k f : Nat), k < f → ∀ m0 l, 1 ≤ m0 → m0 + k = m → l = cum y m - cum y m0 + d - 1 →
    whileN (evalE (law_.cfg (law_.run (n+2))) cM) (execs (law_.cfg (law_.run (n+2))) bM) f [.v (.int N), .v (.int y), .v (.int l), .v (.int m0)] = .ok .nxt [.v (.int N), .v (.int y), .v (.int (d - 1)), .v (.int m)]
  | _, 0, hk, _, _, _, _, _ => absurd hk (by omega)
  | 0, f + 1, _, m0, l, h1, e, hl => by
    have : m0 = m := by omega
    subst this
    have hl : l = d - 1 := by omega
    subst hl
    have := run_mdays n y m0 h1 v.m2
    have := v.d2
    rw [whl_step]
    simp [cM, *]
    omega
  | k + 1, f + 1, hk, m0, l, h1, e, hl => by
    have hm := v.m2
    have hd := v.d1
    have e1 := cum_next y m0 h1 (by omega)
    have e2 := cum_mono y k (m0 + 1) (by omega) (by omega)
    rw [show m0 + 1 + (k : Int) = m from by omega] at e2
    have ih := mloop (N := N) n v k f (by omega) (m0 + 1) (l - mdays y m0) (by omega) (by omega) (by omega)
    have hd1 := run_mdays n y m0 h1 (by omega)
    have hle : mdays y m0 ≤ l := by omega
    rw [whl_step]
    simp [cM, hd1, hle]
    simp [bM, hd1]
    exact ih
theorem run_raw (n : Nat) {y m d : Int} (v : Valid y m d) : law_.run (n+3) 9 [.v (.int (num y m d))] = .ret (.v (date y m d)) [.v (.int (num y m d))] := by
  rw [r9, callF_end _ _ _ rfl rfl]
  have hi := num_in v
  have hy1 := v.y1
  have hy2 := v.y2
  have hm1 := v.m1
  have hm2 := v.m2
  have hlow : 1900 + num y m d / 366 ≤ y := by
    have : num y m d < ahead (y + 1) := hi.2
    unfold ahead leaps at this
    omega
  have hup : y ≤ 1900 + num y m d / 366 + 40 := by
    have : ahead y ≤ num y m d := hi.1
    unfold ahead leaps at this
    omega
  have h1 := yloop n (num y m d) y hi.1 hi.2 (y - (1900 + num y m d / 366)).toNat 64 (by omega) (1900 + num y m d / 366) (by omega)
  have e0 : cum y 1 = 0 := by simp [cum]
  have h2 := mloop (N := num y m d) n v (m - 1).toNat 64 (by omega) 1 (num y m d - ahead y) (by omega) (by omega) (by unfold num; omega)
  simp only [cY, bY, cM, bM] at h1 h2
  simp [d_raw_date, b_raw_date, h1, h2, date]
theorem run_dateof (n : Nat) {y m d : Int} (v : Valid y m d) : law_.run (n+4) 11 [.v (.int (num y m d))] = .ret (.v (date y m d)) [.v (.int (num y m d))] := by
  rw [r11, callF_end _ _ _ rfl rfl]
  have hi := num_in v
  have hp := ahead_pos v.y1
  have hy := v.y2
  have h1 : 0 ≤ num y m d := by omega
  have h2 : ahead (y + 1) ≤ ahead 3000 := ahead_mono (by omega)
  have h3 : ¬ ahead 3000 ≤ num y m d := by omega
  simp [d_date_of, b_date_of, run_raw n v, h1, h3]
theorem run_dayno (n : Nat) {y m d : Int} (v : Valid y m d) : law_.run (n+5) 10 [.v (date y m d)] = .ret (.v (.int (num y m d))) [.v (date y m d)] := by
  rw [r10, callF_end _ _ _ rfl rfl]
  simp [d_day_number, b_day_number, run_isdate n v, run_number (n+1) v]
theorem run_weekday (n : Nat) {y m d : Int} (v : Valid y m d) : law_.run (n+6) 12 [.v (date y m d)] = .ret (.v (.int (num y m d % 7))) [.v (date y m d)] := by
  rw [r12, callF_end _ _ _ rfl rfl]
  simp [d_weekday, b_weekday, run_dayno n v]
theorem year_of (N : Int) (h0 : 0 ≤ N) : ∀ k : Nat, N < ahead (1900 + k) → ∃ y : Int, 1900 ≤ y ∧ y < 1900 + k ∧ ahead y ≤ N ∧ N < ahead (y + 1)
  | 0, h => absurd h (by simp [ahead, leaps]; omega)
  | k + 1, h => by
    by_cases hk : N < ahead (1900 + k)
    · obtain ⟨y, h1, h2, h3⟩ := year_of N h0 k hk
      exact ⟨y, h1, by omega, h3⟩
    · exact ⟨1900 + k, by omega, by omega, by omega, by rw [show (1900 : Int) + k + 1 = 1900 + ((k + 1 : Nat) : Int) from by omega]; exact h⟩
theorem month_of (y l : Int) (h0 : 0 ≤ l) : ∀ k : Nat, k ≤ 11 → l < cum y (1 + k) + mdays y (1 + k) → ∃ m : Int, 1 ≤ m ∧ m ≤ 12 ∧ cum y m ≤ l ∧ l < cum y m + mdays y m
  | 0, _, h => ⟨1, by omega, by omega, by simp [cum]; exact h0, h⟩
  | k + 1, hk, h => by
    have e := cum_next y (1 + k) (by omega) (by omega)
    by_cases hl : l < cum y (1 + k) + mdays y (1 + k)
    · exact month_of y l h0 k (by omega) hl
    · refine ⟨1 + ((k + 1 : Nat) : Int), by omega, by omega, ?_, h⟩
      rw [show (1 : Int) + ((k + 1 : Nat) : Int) = 1 + k + 1 from by omega, e]
      omega
theorem is_num (N : Int) (h0 : 0 ≤ N) (h : N < ahead 3000) : ∃ y m d, Valid y m d ∧ num y m d = N := by
  obtain ⟨y, h1, h2, h3, h4⟩ := year_of N h0 1100 h
  rw [ahead_next] at h4
  obtain ⟨m, h5, h6, h7, h8⟩ := month_of y (N - ahead y) (by omega) 11 (by omega) (by
    cases hl : leap y <;> simp [cum, mdays, hl] <;> simp [hl] at h4 <;> omega)
  exact ⟨y, m, N - ahead y - cum y m + 1, ⟨h1, by omega, h5, h6, by omega, by omega⟩, by unfold num; omega⟩
/-- the next day -/
theorem run_next (n : Nat) {y m d : Int} (v : Valid y m d) (hn : num y m d + 1 < ahead 3000) : ∃ y' m' d', Valid y' m' d' ∧ num y' m' d' = num y m d + 1 ∧ law_.run (n+3) 21 [.v (date y m d)] = .ret (.v (date y' m' d')) [.v (date y m d)] := by
  have hd := run_lmonth n y m v.m1 v.m2
  have h1 := v.y1
  have h2 := v.y2
  have h3 := v.m1
  have h4 := v.m2
  have h5 := v.d1
  have h6 := v.d2
  have hp := mdays_pos y (m + 1)
  by_cases hlt : d < mdays y m
  · refine ⟨y, m, d + 1, ⟨h1, h2, h3, h4, by omega, by omega⟩, by unfold num; omega, ?_⟩
    rw [r21, callF_end _ _ _ rfl rfl]
    simp [d_law_next, b_law_next, date, hd, hlt]
  · have hd' : d = mdays y m := by omega
    by_cases hm : m < 12
    · have := cum_next y m h3 (by omega)
      refine ⟨y, m + 1, 1, ⟨h1, h2, by omega, by omega, by omega, by omega⟩, by unfold num; omega, ?_⟩
      rw [r21, callF_end _ _ _ rfl rfl]
      simp [d_law_next, b_law_next, date, hd, hlt, hm]
    · have hm : m = 12 := by omega
      subst hm
      have e := ahead_next y
      have e0 : cum (y + 1) 1 = 0 := by simp [cum]
      have e1 : cum y 12 + mdays y 12 = 365 + if leap y = true then 1 else 0 := by cases hl : leap y <;> simp [cum, mdays, hl]
      have hy : y + 1 ≤ 2999 := by
        apply Decidable.byContradiction
        intro hc
        have : y = 2999 := by omega
        subst this
        unfold num at hn
        rw [show (2999 : Int) + 1 = 3000 from rfl] at e
        omega
      have hp1 := mdays_pos (y + 1) 1
      refine ⟨y + 1, 1, 1, ⟨by omega, hy, by omega, by omega, by omega, by omega⟩, by unfold num; omega, ?_⟩
      rw [r21, callF_end _ _ _ rfl rfl]
      simp [d_law_next, b_law_next, date, hd, hlt]
theorem num_last {y m d : Int} (v : Valid y m d) (h : date y m d ≠ date 2999 12 31) : num y m d + 1 < ahead 3000 := by
  have h1 := v.y1
  have h2 := v.y2
  have h3 := v.m1
  have h4 := v.m2
  have h5 := v.d1
  have h6 := v.d2
  have hi := (num_in v).2
  by_cases hy : y = 2999
  · subst hy
    have hl : leap 2999 = false := by decide
    have e : ahead 3000 = ahead 2999 + 365 := by decide
    by_cases hm : m = 12
    · subst hm
      have : d ≠ 31 := fun hc => h (by rw [hc])
      have e1 : cum 2999 12 = 334 := by decide
      have e2 : mdays 2999 12 = 31 := by decide
      unfold num
      omega
    · have := cum_mono 2999 (12 - m - 1).toNat (m + 1) (by omega) (by omega)
      rw [show m + 1 + ((12 - m - 1).toNat : Int) = 12 from by omega, cum_next 2999 m h3 (by omega)] at this
      have e1 : cum 2999 12 = 334 := by decide
      unfold num
      omega
  · have : ahead (y + 1) ≤ ahead 2999 := ahead_mono (by omega)
    have e : ahead 3000 = ahead 2999 + 365 := by decide
    omega
theorem val_last : Valid 2999 12 31 := ⟨by decide, by decide, by decide, by decide, by decide, by decide⟩
end K73
end
section
set_option Elab.async false
set_option linter.all false
set_option maxRecDepth 100000
set_option maxHeartbeats 4000000
/-! k73: the hand, what is no date. -/
namespace K73
open Py
theorem r13 (n os) : law_.run (n+1) 13 os = callF (law_.cfg (law_.run n)) d_law_hand.fi os := rfl
theorem r14 (n os) : law_.run (n+1) 14 os = callF (law_.cfg (law_.run n)) d_law_draw.fi os := rfl
theorem r15 (n os) : law_.run (n+1) 15 os = callF (law_.cfg (law_.run n)) d_law_some.fi os := rfl
theorem r16 (n os) : law_.run (n+1) 16 os = callF (law_.cfg (law_.run n)) d_law_is.fi os := rfl
theorem r17 (n os) : law_.run (n+1) 17 os = callF (law_.cfg (law_.run n)) d_law_deep.fi os := rfl
/-- a hand: the cells, the next one's place, the cell in use, two more -/
def Hand (h : List D) : Prop := ∃ (cs : List Int) (p c s t : Int), h = [.lst (cs.map .int), .int p, .int c, .int s, .int t] ∧ 0 ≤ p
/-- a draw: the cell that is taken up, and the rest -/
def hdD : S := (.ite (.and (.cons (.op .eq (.cons (.op .idx (.cons (.bor 0) (.cons (.int 2) .nil))) (.cons (.int 0) .nil))) (.cons (.op .lt (.cons (.op .idx (.cons (.bor 0) (.cons (.int 1) .nil))) (.cons (.op .len (.cons (.op .idx (.cons (.bor 0) (.cons (.int 0) .nil))) .nil)) .nil))) .nil))) (.cons (.asg 3 (.op .idx (.cons (.op .idx (.cons (.bor 0) (.cons (.int 0) .nil))) (.cons (.op .idx (.cons (.bor 0) (.cons (.int 1) .nil))) .nil)))) (.cons (.set 0 (.int 1) (.op .add (.cons (.op .idx (.cons (.bor 0) (.cons (.int 1) .nil))) (.cons (.int 1) .nil)))) (.cons (.set 0 (.int 3) (.op .mod (.cons (.op .int (.cons (.op .add (.cons (.op .add (.cons (.op .mul (.cons (.op .idx (.cons (.bor 0) (.cons (.int 3) .nil))) (.cons (.int 69621) .nil))) (.cons (.var 3) .nil))) (.cons (.int 103) .nil))) .nil)) (.cons (.int 2147483629) .nil)))) (.cons (.ite (.op .ge (.cons (.var 3) (.cons (.op .pow (.cons (.int 10) (.cons (.int 18) .nil))) .nil))) (.cons (.set 0 (.int 2) (.var 3)) .nil) .nil) .nil)))) .nil)
def tlD : Ss := (.cons (.ite (.op .gt (.cons (.op .idx (.cons (.bor 0) (.cons (.int 2) .nil))) (.cons (.int 0) .nil))) (.cons (.asg 4 (.op .mod (.cons (.op .int (.cons (.op .idx (.cons (.bor 0) (.cons (.int 2) .nil))) .nil)) (.cons (.var 1) .nil)))) (.cons (.set 0 (.int 2) (.op .fdiv (.cons (.op .idx (.cons (.bor 0) (.cons (.int 2) .nil))) (.cons (.var 1) .nil)))) (.cons (.ret (.var 4)) .nil))) .nil) (.cons (.set 0 (.int 4) (.op .add (.cons (.op .idx (.cons (.bor 0) (.cons (.int 4) .nil))) (.cons (.int 1) .nil)))) (.cons (.asg 2 (.op .mod (.cons (.op .int (.cons (.op .mul (.cons (.op .int (.cons (.op .add (.cons (.op .idx (.cons (.bor 0) (.cons (.int 3) .nil))) (.cons (.op .mul (.cons (.int 7919) (.cons (.op .idx (.cons (.bor 0) (.cons (.int 4) .nil))) .nil))) .nil))) .nil)) (.cons (.int 48271) .nil))) .nil)) (.cons (.int 2147483647) .nil)))) (.cons (.asg 2 (.op .mod (.cons (.op .int (.cons (.op .mul (.cons (.var 2) (.cons (.op .add (.cons (.op .fdiv (.cons (.var 2) (.cons (.int 1009) .nil))) (.cons (.int 69621) .nil))) .nil))) .nil)) (.cons (.int 2147483647) .nil)))) (.cons (.asg 2 (.op .mod (.cons (.op .int (.cons (.op .mul (.cons (.var 2) (.cons (.op .add (.cons (.op .fdiv (.cons (.var 2) (.cons (.int 2003) .nil))) (.cons (.int 40692) .nil))) .nil))) .nil)) (.cons (.int 2147483399) .nil)))) (.cons (.ret (.op .mod (.cons (.op .int (.cons (.op .fdiv (.cons (.var 2) (.cons (.int 16) .nil))) .nil)) (.cons (.var 1) .nil)))) .nil))))))
theorem draw_cut : b_law_draw = .cons hdD tlD := rfl
theorem mulOk_lt {i j : Int} (h : 0 ≤ i) (h2 : i < 18446744073709551616) : mulOk i j = true := by
  simp [mulOk, h2]
  left
  omega
/-- what is drawn when the cells are used up -/
def rnd1 (s t : Int) : Int := (s + 7919 * (t + 1)) * 48271 % 2147483647
def rnd2 (a : Int) : Int := a * (a / 1009 + 69621) % 2147483647
def rnd (s t : Int) : Int := rnd2 (rnd1 s t) * (rnd2 (rnd1 s t) / 2003 + 40692) % 2147483399
theorem draw_tail (cs : List Int) (p c s t l : Int) (x y z : O) (hp : 0 ≤ p) (h0 : 0 < l) (h1 : l < 1073741824) : ∃ (r : Int) (h' : List D) (a b c' : O), 0 ≤ r ∧ r < l ∧ Hand h' ∧ ∀ G : Cfg, execs G tlD [.fl [.lst (cs.map .int), .int p, .int c, .int s, .int t], .v (.int l), x, y, z] = .ok (.ret (.v (.int r))) [.fl h', .v (.int l), a, b, c'] := by
  have hlm : ∀ a : Int, 0 ≤ a % l ∧ a % l < l := fun a => ⟨Int.emod_nonneg _ (by omega), Int.emod_lt_of_pos _ h0⟩
  by_cases hc : 0 < c
  · refine ⟨c % l, _, x, y, .v (.int (c % l)), (hlm _).1, (hlm _).2, ⟨cs, p, c / l, s, t, rfl, hp⟩, ?_⟩
    intro G
    simp [tlD, hc, h0, h1]
  · have e : ∀ a : Int, mulOk (a % 2147483647) (a % 2147483647 / 1009 + 69621) = true := fun a => mulOk_lt (by omega) (by omega)
    have e2 : ∀ a : Int, mulOk (a % 2147483647) (a % 2147483647 / 2003 + 40692) = true := fun a => mulOk_lt (by omega) (by omega)
    have e3 : ∀ a : Int, mulOk a 48271 = true := fun a => by simp [mulOk]
    have e4 : mulOk 7919 (t + 1) = true := by simp [mulOk]
    refine ⟨rnd s t / 16 % l, _, .v (.int (rnd s t)), y, z, (hlm _).1, (hlm _).2, ⟨cs, p, c, s, t + 1, rfl, hp⟩, ?_⟩
    intro G
    simp [tlD, hc, h0, h1, e, e2, e3, e4, rnd, rnd1, rnd2]
theorem draw_ex (h : List D) (l : Int) (hh : Hand h) (h0 : 0 < l) (h1 : l < 1073741824) : ∃ (r : Int) (h' : List D), 0 ≤ r ∧ r < l ∧ Hand h' ∧ ∀ n, law_.run (n+1) 14 [.fl h, .v (.int l)] = .ret (.v (.int r)) [.fl h', .v (.int l)] := by
  obtain ⟨cs, p, c, s, t, rfl, hp⟩ := hh
  have key : ∃ (r : Int) (h' : List D) (a b c' : O), 0 ≤ r ∧ r < l ∧ Hand h' ∧ ∀ G : Cfg, execs G b_law_draw [.fl [.lst (cs.map .int), .int p, .int c, .int s, .int t], .v (.int l), .un, .un, .un] = .ok (.ret (.v (.int r))) [.fl h', .v (.int l), a, b, c'] := by
    by_cases hc : c = 0 ∧ p < cs.length
    · obtain ⟨rfl, hpl⟩ := hc
      obtain ⟨v, hv⟩ : ∃ v, cs[p.toNat]? = some v := ⟨cs[p.toNat]'(by omega), List.getElem?_eq_getElem (by omega)⟩
      have hat : atD (cs.map D.int) p = some (.int v) := by
        rw [atD_in _ _ hp (by simpa using hpl), List.getElem?_map, hv]
        rfl
      by_cases hv1 : (10 : Int) ^ 18 ≤ v
      · obtain ⟨r, h', a, b, c', k1, k2, k3, k4⟩ := draw_tail cs (p + 1) v ((s * 69621 + v + 103) % 2147483629) t l .un (.v (.int v)) .un (by omega) h0 h1
        refine ⟨r, h', a, b, c', k1, k2, k3, fun G => ?_⟩
        have k4 := k4 G
        rw [draw_cut, exs_cons]
        simp at hv1
        simp [hdD, hpl, atD_lit, hat, mulOk, hv1, hp, k4]
      · obtain ⟨r, h', a, b, c', k1, k2, k3, k4⟩ := draw_tail cs (p + 1) 0 ((s * 69621 + v + 103) % 2147483629) t l .un (.v (.int v)) .un (by omega) h0 h1
        refine ⟨r, h', a, b, c', k1, k2, k3, fun G => ?_⟩
        have k4 := k4 G
        rw [draw_cut, exs_cons]
        simp at hv1
        have hv1 : ¬ 1000000000000000000 ≤ v := by omega
        simp [hdD, hpl, atD_lit, hat, mulOk, hv1, hp, k4]
    · obtain ⟨r, h', a, b, c', k1, k2, k3, k4⟩ := draw_tail cs p c s t l .un .un .un hp h0 h1
      refine ⟨r, h', a, b, c', k1, k2, k3, fun G => ?_⟩
      have k4 := k4 G
      rw [draw_cut, exs_cons]
      by_cases h2 : c = 0
      · have h3 : ¬ p < cs.length := fun h => hc ⟨h2, h⟩
        simp [hdD, h2, h3] at k4 ⊢
        exact k4
      · simp [hdD, h2] at k4 ⊢
        exact k4
  obtain ⟨r, h', a, b, c', k1, k2, k3, k4⟩ := key
  refine ⟨r, h', k1, k2, k3, fun n => ?_⟩
  rw [r14, callF_end _ _ _ rfl rfl]
  have := k4 (law_.cfg (law_.run n))
  show endF _ (execs _ b_law_draw _) = _
  simp [d_law_draw] at this ⊢
  rw [this]
  rfl

open Classical in
noncomputable def drawV (h : List D) (l : Int) : Int := if k : Hand h ∧ 0 < l ∧ l < 1073741824 then (draw_ex h l k.1 k.2.1 k.2.2).choose else 0
open Classical in
noncomputable def drawH (h : List D) (l : Int) : List D := if k : Hand h ∧ 0 < l ∧ l < 1073741824 then (draw_ex h l k.1 k.2.1 k.2.2).choose_spec.choose else h
theorem draw_sp (h : List D) (l : Int) (hh : Hand h) (h0 : 0 < l) (h1 : l < 1073741824) : 0 ≤ drawV h l ∧ drawV h l < l ∧ Hand (drawH h l) ∧ ∀ n, law_.run (n+1) 14 [.fl h, .v (.int l)] = .ret (.v (.int (drawV h l))) [.fl (drawH h l), .v (.int l)] := by
  unfold drawV drawH
  rw [dif_pos ⟨hh, h0, h1⟩, dif_pos ⟨hh, h0, h1⟩]
  exact (draw_ex h l hh h0 h1).choose_spec.choose_spec
theorem run_draw (n : Nat) {h : List D} {l : Int} (hh : Hand h) (h0 : 0 < l) (h1 : l < 1073741824) : law_.run (n+1) 14 [.fl h, .v (.int l)] = .ret (.v (.int (drawV h l))) [.fl (drawH h l), .v (.int l)] := (draw_sp h l hh h0 h1).2.2.2 n
theorem drawV_ge {h : List D} {l : Int} (hh : Hand h) (h0 : 0 < l) (h1 : l < 1073741824) : 0 ≤ drawV h l := (draw_sp h l hh h0 h1).1
theorem drawV_lt {h : List D} {l : Int} (hh : Hand h) (h0 : 0 < l) (h1 : l < 1073741824) : drawV h l < l := (draw_sp h l hh h0 h1).2.1
theorem drawH_hand {h : List D} {l : Int} (hh : Hand h) (h0 : 0 < l) (h1 : l < 1073741824) : Hand (drawH h l) := (draw_sp h l hh h0 h1).2.2.1
/-- one of some -/
noncomputable def someV (h : List D) (ds : List D) : D := ds.getD (drawV h ds.length).toNat .non
noncomputable def someH (h : List D) (ds : List D) : List D := drawH h ds.length
theorem some_sp {h : List D} {ds : List D} (hh : Hand h) (h0 : 0 < ds.length) (h1 : ds.length < 1000000) : someV h ds ∈ ds ∧ Hand (someH h ds) ∧ ∀ n, law_.run (n+2) 15 [.fl h, .v (.lst ds)] = .ret (.v (someV h ds)) [.fl (someH h ds), .v (.lst ds)] := by
  have a := drawV_ge (h := h) (l := (ds.length : Int)) hh (by omega) (by omega)
  have b := drawV_lt (h := h) (l := (ds.length : Int)) hh (by omega) (by omega)
  have hlt : (drawV h ds.length).toNat < ds.length := by omega
  have hat : atD ds (drawV h ds.length) = some (someV h ds) := by
    rw [atD_in _ _ a b, someV, List.getD_eq_getElem?_getD, List.getElem?_eq_getElem hlt]
    rfl
  refine ⟨?_, drawH_hand hh (by omega) (by omega), fun n => ?_⟩
  · rw [someV, List.getD_eq_getElem?_getD, List.getElem?_eq_getElem hlt]
    exact List.getElem_mem hlt
  · rw [r15, callF_end _ _ _ rfl rfl]
    have hd := run_draw n (h := h) (l := (ds.length : Int)) hh (by omega) (by omega)
    simp [d_law_some, b_law_some, hd, hat, someH]
theorem run_some (n : Nat) {h : List D} {ds : List D} (hh : Hand h) (h0 : 0 < ds.length) (h1 : ds.length < 1000000) : law_.run (n+2) 15 [.fl h, .v (.lst ds)] = .ret (.v (someV h ds)) [.fl (someH h ds), .v (.lst ds)] := (some_sp hh h0 h1).2.2 n
theorem someH_hand {h : List D} {ds : List D} (hh : Hand h) (h0 : 0 < ds.length) (h1 : ds.length < 1000000) : Hand (someH h ds) := (some_sp hh h0 h1).2.1
theorem someV_mem {h : List D} {ds : List D} (hh : Hand h) (h0 : 0 < ds.length) (h1 : ds.length < 1000000) : someV h ds ∈ ds := (some_sp hh h0 h1).1
theorem run_hand (n : Nat) (ns : List Int) (hl : ns.length ≤ 63) : ∃ h, Hand h ∧ law_.run (n+1) 13 [.v (.lst (ns.map .int))] = .ret (.fl h) [.v (.lst (ns.map .int))] := by
  have e : cut (ns.map D.int) none (some 63) = ns.map D.int := by
    have : (ns.map D.int).length ≤ 63 := by simpa using hl
    show ((ns.map D.int).drop 0).take (Nat.min 63 _ - 0) = _
    rw [List.drop_zero, List.take_of_length_le (by show _ ≤ Nat.min 63 _ - 0; have : Nat.min 63 (ns.map D.int).length = (ns.map D.int).length := Nat.min_eq_right (by omega); omega)]
  let cs := ns.map iabs
  have hlc : lcR (.name 2) [2] (testAll (law_.cfg (law_.run n)) .nil) (evalE (law_.cfg (law_.run n)) (.op .abs (.cons (.op .int (.cons (.var 2) .nil)) .nil))) (.ok (ns.map D.int) [.v (.lst (ns.map D.int)), .un, .un]) = .ok (cs.map .int) [.v (.lst (ns.map D.int)), .un, .un] := by
    have := lc_map (tg := .name 2) (own := [2]) (tests := testAll (law_.cfg (law_.run n)) .nil) (elt := evalE (law_.cfg (law_.run n)) (.op .abs (.cons (.op .int (.cons (.var 2) .nil)) .nil))) (xs := ns.map D.int) (env := [.v (.lst (ns.map D.int)), .un, .un]) (fun x => .int (iabs (iOf x))) (fun x => [.v (.lst (ns.map D.int)), .un, .v x])
      (by intro x hx
          obtain ⟨i, _, rfl⟩ := List.mem_map.mp hx
          simp [iOf])
      (by intro x _; simp) (by simp) (by intro x _; simp) (by simp; omega)
    rw [this, List.map_map, List.map_map]
    rfl
  refine ⟨[.lst (cs.map .int), .int 0, .int 0, .int (41 + cs.length), .int 0], ⟨cs, 0, 0, _, 0, rfl, by omega⟩, ?_⟩
  rw [r13, callF_end _ _ _ rfl rfl]
  simp [d_law_hand, b_law_hand, e]
  simp [hlc, cs]
end K73
end
section
set_option Elab.async false
set_option linter.all false
set_option maxRecDepth 100000
set_option maxHeartbeats 4000000
/-! k73: sameness, depth, dates drawn, what is no date. -/
namespace K73
open Py
theorem r22 (n os) : law_.run (n+1) 22 os = callF (law_.cfg (law_.run n)) d_law_date.fi os := rfl
theorem r23 (n os) : law_.run (n+1) 23 os = callF (law_.cfg (law_.run n)) d_law_no_date.fi os := rfl
theorem r24 (n os) : law_.run (n+1) 24 os = callF (law_.cfg (law_.run n)) d_law_is_day.fi os := rfl
theorem r25 (n os) : law_.run (n+1) 25 os = callF (law_.cfg (law_.run n)) d_law_refused_right.fi os := rfl
theorem r26 (n os) : law_.run (n+1) 26 os = callF (law_.cfg (law_.run n)) d_law_is_known.fi os := rfl
theorem r27 (n os) : law_.run (n+1) 27 os = callF (law_.cfg (law_.run n)) d_law.fi os := rfl
/-- _law_is says yes of a value and itself -/
def Same (n : Nat) (d : D) : Prop := law_.run n 16 [.v d, .v d] = .ret (.v (.bl true)) [.v d, .v d]
theorem same_int (n : Nat) (i : Int) : Same (n+1) (.int i) := by
  unfold Same
  rw [r16, callF_end _ _ _ rfl rfl]
  simp [d_law_is, b_law_is]
def p1 : D → D | .tup [a, _] => a | _ => .non
def p2 : D → D | .tup [_, a] => a | _ => .non
theorem mem_zip : ∀ (ds : List D) (x : D), x ∈ zipL ds ds → ∃ a ∈ ds, x = .tup [a, a]
  | [], _, h => nomatch h
  | d :: ds, x, h => by
    rcases List.mem_cons.mp h with rfl | h
    · exact ⟨d, .head _, rfl⟩
    · obtain ⟨a, ha, e⟩ := mem_zip ds x h
      exact ⟨a, .tail _ ha, e⟩
theorem len_zip : ∀ (ds : List D), (zipL ds ds).length = ds.length
  | [] => rfl
  | d :: ds => congrArg (· + 1) (len_zip ds)
theorem same_go (n : Nat) (ds : List D) (a : O) (hl : ds.length < 1000000) (h : ∀ d ∈ ds, Same n d) : lcR (.tup (.cons (.name 2) (.cons (.name 3) .nil))) [2, 3] (testAll (law_.cfg (law_.run n)) .nil) (evalE (law_.cfg (law_.run n)) (.call 16 (.cons (.var 2) (.cons (.var 3) .nil)))) (.ok (zipL ds ds) [a, a, .un, .un]) = .ok ((zipL ds ds).map fun _ => .bl true) [a, a, .un, .un] := by
  refine lc_map _ (fun x => [a, a, .v (p1 x), .v (p2 x)]) ?_ ?_ (by simp) ?_ (by rw [len_zip]; simp; omega)
  · intro x hx
    obtain ⟨d, hd, rfl⟩ := mem_zip _ _ hx
    have := h d hd
    unfold Same at this
    simp [p1, p2, this]
  · intro x _
    simp
  · intro x _
    simp
theorem same_tup (n : Nat) (ds : List D) (hl : ds.length < 1000000) (h : ∀ d ∈ ds, Same n d) : Same (n+1) (.tup ds) := by
  unfold Same
  rw [r16, callF_end _ _ _ rfl rfl]
  have := same_go n ds (.v (.tup ds)) hl h
  simp [d_law_is, b_law_is, this, all_map]
theorem same_lst (n : Nat) (ds : List D) (hl : ds.length < 1000000) (h : ∀ d ∈ ds, Same n d) : Same (n+1) (.lst ds) := by
  unfold Same
  rw [r16, callF_end _ _ _ rfl rfl]
  have := same_go n ds (.v (.lst ds)) hl h
  simp [d_law_is, b_law_is, this, all_map]
theorem same_date (n : Nat) (y m d : Int) : Same (n+2) (date y m d) := same_tup (n+1) _ (by simp) (by
  intro x hx
  simp at hx
  rcases hx with rfl | rfl | rfl <;> exact same_int n _)
/-- what no date is -/
inductive NoDate : D → Prop
  | non (d : D) (h : isTy .tuple d = false) : NoDate d
  | len (ds : List D) (h : ds.length ≠ 3) (h2 : ds.length ≤ 100) : NoDate (.tup ds)
  | odd (a b c : D) (h : ((isTy .int a && !isTy .bool a) && (isTy .int b && !isTy .bool b) && (isTy .int c && !isTy .bool c)) = false) : NoDate (.tup [a, b, c])
  | out (y m d : Int) (h : ¬ Valid y m d) : NoDate (date y m d)
theorem run_nodate (n : Nat) {d : D} (h : NoDate d) : law_.run (n+4) 5 [.v d] = .ret (.v (.bl false)) [.v d] := by
  rw [r5, callF_end _ _ _ rfl rfl]
  cases h with
  | non _ h => simp [d_is_date, b_is_date, h]
  | len ds h h2 =>
    have : (ds.length : Int) ≠ 3 := by omega
    simp [d_is_date, b_is_date, this]
  | odd a b c h =>
    simp [d_is_date, b_is_date, lcR_un, lc_nil, lc_cons, lc_step]
    simp at h
    by_cases ha : (isTy .int a && !isTy .bool a) = true
    · by_cases hb : (isTy .int b && !isTy .bool b) = true
      · by_cases hc : (isTy .int c && !isTy .bool c) = true
        · simp_all
        · simp_all
      · simp_all
    · simp_all
  | out y m d h =>
    simp [d_is_date, b_is_date, date, lcR_un, lc_nil, lc_cons, lc_step]
    by_cases hy : 1900 ≤ y ∧ y ≤ 2999
    · by_cases hm : 1 ≤ m ∧ m ≤ 12
      · have hd := run_mdays (n+1) y m hm.1 hm.2
        have : ¬ (1 ≤ d ∧ d ≤ mdays y m) := fun k => h ⟨hy.1, hy.2, hm.1, hm.2, k.1, k.2⟩
        simp [hy.1, hy.2, hm.1, hm.2, hd]
        by_cases h1 : 1 ≤ d
        · have : ¬ d ≤ mdays y m := fun k => this ⟨h1, k⟩
          simp [h1, this]
          omega
        · simp [h1]
      · by_cases h1 : 1 ≤ m
        · have : ¬ m ≤ 12 := fun k => hm ⟨h1, k⟩
          simp [hy.1, hy.2, h1, this]
        · simp [hy.1, hy.2, h1]
    · by_cases h1 : 1900 ≤ y
      · have : ¬ y ≤ 2999 := fun k => hy ⟨h1, k⟩
        simp [h1, this]
      · simp [h1]
theorem run_no10 (n : Nat) {d : D} (h : NoDate d) : law_.run (n+5) 10 [.v d] = .exc 2 [] [.v d] := by
  rw [r10, callF_end _ _ _ rfl rfl]
  simp [d_day_number, b_day_number, run_nodate n h]
theorem run_no12 (n : Nat) {d : D} (h : NoDate d) : law_.run (n+6) 12 [.v d] = .exc 2 [] [.v d] := by
  rw [r12, callF_end _ _ _ rfl rfl]
  simp [d_weekday, b_weekday, run_no10 n h]
end K73
end
section
set_option Elab.async false
set_option linter.all false
set_option maxRecDepth 100000
set_option maxHeartbeats 4000000
/-! k73: what is drawn. -/
namespace K73
open Py
theorem run_ldate (n : Nat) {h : List D} (hh : Hand h) : ∃ y m d h', Valid y m d ∧ Hand h' ∧ law_.run (n+3) 22 [.fl h] = .ret (.v (date y m d)) [.fl h'] := by
  rw [r22, callF_end _ _ _ rfl rfl]
  -- the year
  have a1 := drawV_ge (l := 1100) hh (by omega) (by omega)
  have a2 := drawV_lt (l := 1100) hh (by omega) (by omega)
  have e1 := run_draw (n+1) (l := 1100) hh (by omega) (by omega)
  have hh1 := drawH_hand (l := 1100) hh (by omega) (by omega)
  generalize drawV h 1100 = v1 at *
  generalize drawH h 1100 = h1 at *
  have hy : ∃ ys : List D, ys = [.int 1900, .int 1904, .int 1999, .int 2000, .int 2024, .int 2025, .int 2100, .int 2400, .int 2999, .int (1900 + v1)] := ⟨_, rfl⟩
  obtain ⟨ys, hys⟩ := hy
  have hl : 0 < ys.length ∧ ys.length < 1000000 := by rw [hys]; simp
  have m2 := someV_mem hh1 hl.1 hl.2
  have e2 := run_some n hh1 hl.1 hl.2
  have hh2 := someH_hand hh1 hl.1 hl.2
  generalize someV h1 ys = yd at *
  generalize someH h1 ys = h2 at *
  obtain ⟨y, rfl, y1, y2⟩ : ∃ y : Int, yd = .int y ∧ 1900 ≤ y ∧ y ≤ 2999 := by
    rw [hys] at m2
    simp at m2
    rcases m2 with rfl | rfl | rfl | rfl | rfl | rfl | rfl | rfl | rfl | rfl <;> refine ⟨_, rfl, ?_, ?_⟩ <;> omega
  -- the month
  have a3 := drawV_ge (l := 12) hh2 (by omega) (by omega)
  have a4 := drawV_lt (l := 12) hh2 (by omega) (by omega)
  have e3 := run_draw (n+1) (l := 12) hh2 (by omega) (by omega)
  have hh3 := drawH_hand (l := 12) hh2 (by omega) (by omega)
  generalize drawV h2 12 = v2 at *
  generalize drawH h2 12 = h3 at *
  have hm : ∃ ms : List D, ms = [.int 1, .int 2, .int 2, .int 3, .int 12, .int (1 + v2)] := ⟨_, rfl⟩
  obtain ⟨ms, hms⟩ := hm
  have hlm : 0 < ms.length ∧ ms.length < 1000000 := by rw [hms]; simp
  have m4 := someV_mem hh3 hlm.1 hlm.2
  have e4 := run_some n hh3 hlm.1 hlm.2
  have hh4 := someH_hand hh3 hlm.1 hlm.2
  generalize someV h3 ms = md at *
  generalize someH h3 ms = h4 at *
  obtain ⟨m, rfl, m1, m2'⟩ : ∃ m : Int, md = .int m ∧ 1 ≤ m ∧ m ≤ 12 := by
    rw [hms] at m4
    simp at m4
    rcases m4 with rfl | rfl | rfl | rfl | rfl <;> refine ⟨_, rfl, ?_, ?_⟩ <;> omega
  have hmd := run_lmonth n y m m1 m2'
  have hp := mdays_pos y m
  -- the day
  have a5 := drawV_ge (l := mdays y m) hh4 (by omega) (by omega)
  have a6 := drawV_lt (l := mdays y m) hh4 (by omega) (by omega)
  have e5 := run_draw (n+1) (l := mdays y m) hh4 (by omega) (by omega)
  have hh5 := drawH_hand (l := mdays y m) hh4 (by omega) (by omega)
  generalize drawV h4 (mdays y m) = v3 at *
  generalize drawH h4 (mdays y m) = h5 at *
  have hd : ∃ dl : List D, dl = [.int 1, .int (mdays y m), .int (mdays y m - 1), .int (1 + v3)] := ⟨_, rfl⟩
  obtain ⟨dl, hdl⟩ := hd
  have hld : 0 < dl.length ∧ dl.length < 1000000 := by rw [hdl]; simp
  have m6 := someV_mem hh5 hld.1 hld.2
  have e6 := run_some n hh5 hld.1 hld.2
  have hh6 := someH_hand hh5 hld.1 hld.2
  generalize someV h5 dl = dd at *
  generalize someH h5 dl = h6 at *
  obtain ⟨d, rfl, d1, d2⟩ : ∃ d : Int, dd = .int d ∧ 1 ≤ d ∧ d ≤ mdays y m := by
    rw [hdl] at m6
    simp at m6
    rcases m6 with rfl | rfl | rfl | rfl <;> refine ⟨_, rfl, ?_, ?_⟩ <;> omega
  refine ⟨y, m, d, h6, ⟨y1, y2, m1, m2', d1, d2⟩, hh6, ?_⟩
  subst hys hms hdl
  simp [d_law_date, b_law_date, date, e1, e2, e3, e4, e5, e6, hmd]
theorem run_deep (n : Nat) (d : D) : law_.run (n+1) 17 [.v d, .v (.int 12)] = .ret (.v (.lst [.lst [.lst [.lst [.lst [.lst [.lst [.tup [.tup [.tup [.tup [.tup [d]]]]]]]]]]]])) [.v d, .v (.int 12)] := by
  rw [r17, callF_end _ _ _ rfl rfl]
  simp [d_law_deep, b_law_deep, rangeL, for_cons, for_nil]
end K73
end
section
set_option Elab.async false
set_option linter.all false
set_option maxRecDepth 100000
set_option maxHeartbeats 4000000
/-! k73: refused rightly, days, the law. -/
namespace K73
open Py
theorem log_small {i : Int} (h : 0 ≤ i) (h2 : i < 100000) : i.natAbs.log2 < 1920 := by
  by_cases h0 : i.natAbs = 0
  · rw [h0]
    decide
  · have : i.natAbs.log2 < 17 := by
      rw [Nat.log2_lt h0]
      omega
    omega
def deep (d : D) : D := .lst [.lst [.lst [.lst [.lst [.lst [.lst [.tup [.tup [.tup [.tup [.tup [d]]]]]]]]]]]]
theorem run_lnodate (n : Nat) {h : List D} (hh : Hand h) : ∃ d h', NoDate d ∧ Hand h' ∧ law_.run (n+3) 23 [.fl h] = .ret (.v d) [.fl h'] := by
  rw [r23, callF_end _ _ _ rfl rfl]
  have a1 := drawV_ge (l := 1100) hh (by omega) (by omega)
  have a2 := drawV_lt (l := 1100) hh (by omega) (by omega)
  have e1 := run_draw (n+1) (l := 1100) hh (by omega) (by omega)
  have hh1 := drawH_hand (l := 1100) hh (by omega) (by omega)
  generalize drawV h 1100 = v1 at *
  generalize drawH h 1100 = h1 at *
  obtain ⟨os, hos⟩ : ∃ os : List D, os = [date (1900 + v1) 2 30, date 2100 2 29, date 1900 2 29, date 2025 2 29, date (1900 + v1) 4 31, date (1900 + v1) 13 1, date (1900 + v1) 0 1, date (1900 + v1) 1 0, date (1900 + v1) 1 32, date 1899 12 31, date 3000 1 1, .tup [.bl true, .int 1, .int 1], .tup [.int (1900 + v1), .bl true, .int 1], .lst [.int (1900 + v1), .int 1, .int 1], .tup [.int (1900 + v1), .int 1], .tup [.int (1900 + v1), .int 1, .int 1, .int 1], .tup [.str (digits (1900 + v1)), .int 1, .int 1], .non, .int 0, .str [], .tup [], .dct [] [], .tup [.non, .int 1, .int 1], deep (date 2000 1 1), .tup [date (1900 + v1) 1 1], .str [50, 48, 48, 48, 45, 48, 49, 45, 48, 49], .tup [.int (1900 + v1), .int 1, .bl true]] := ⟨_, rfl⟩
  have hl : 0 < os.length ∧ os.length < 1000000 := by rw [hos]; simp
  have m2 := someV_mem hh1 hl.1 hl.2
  have e2 := run_some n hh1 hl.1 hl.2
  have hh2 := someH_hand hh1 hl.1 hl.2
  generalize someV h1 os = d at *
  generalize someH h1 os = h2 at *
  refine ⟨d, h2, ?_, hh2, ?_⟩
  · rw [hos] at m2
    simp only [List.mem_cons, List.not_mem_nil, or_false] at m2
    have b29 : ∀ y m d : Int, mdays y m < d → ¬ Valid y m d := fun y m d h v => by have := v.d2; omega
    have m2le : ∀ y : Int, mdays y 2 ≤ 29 := fun y => by unfold mdays; cases leap y <;> simp
    have m4 : ∀ y : Int, mdays y 4 = 30 := fun y => by simp [mdays]
    have m1 : ∀ y : Int, mdays y 1 = 31 := fun y => by simp [mdays]
    rcases m2 with rfl | rfl | rfl | rfl | rfl | rfl | rfl | rfl | rfl | rfl | rfl | rfl | rfl | rfl | rfl | rfl | rfl | rfl | rfl | rfl | rfl | rfl | rfl | rfl | rfl | rfl | rfl
    · exact .out _ _ _ (b29 _ _ _ (by have := m2le (1900 + v1); omega))
    · exact .out _ _ _ (b29 _ _ _ (by decide))
    · exact .out _ _ _ (b29 _ _ _ (by decide))
    · exact .out _ _ _ (b29 _ _ _ (by decide))
    · exact .out _ _ _ (b29 _ _ _ (by rw [m4]; decide))
    · exact .out _ _ _ fun v => by have := v.m2; omega
    · exact .out _ _ _ fun v => by have := v.m1; omega
    · exact .out _ _ _ fun v => by have := v.d1; omega
    · exact .out _ _ _ (b29 _ _ _ (by rw [m1]; decide))
    · exact .out _ _ _ fun v => by have := v.y1; omega
    · exact .out _ _ _ fun v => by have := v.y2; omega
    · exact .odd _ _ _ rfl
    · exact .odd _ _ _ rfl
    · exact .non _ rfl
    · exact .len _ (by simp) (by simp)
    · exact .len _ (by simp) (by simp)
    · exact .odd _ _ _ rfl
    · exact .non _ rfl
    · exact .non _ rfl
    · exact .non _ rfl
    · exact .len _ (by simp) (by simp)
    · exact .non _ rfl
    · exact .odd _ _ _ rfl
    · exact .non _ rfl
    · exact .len _ (by simp) (by simp)
    · exact .non _ rfl
    · exact .odd _ _ _ rfl
  · subst hos
    have hlog := log_small (i := 1900 + v1) (by omega) (by omega)
    simp only [date, deep] at e2
    simp [d_law_no_date, b_law_no_date, e1, run_deep, hlog, e2]
theorem flag_2 (c) : (law_.cfg c).flag 0 2 = some 0 := rfl
theorem flag_1 (c) : (law_.cfg c).flag 0 1 = some 1 := rfl
/-- what is no number of a day -/
theorem run_no11 (n : Nat) {d : D} (h : (isTy .int d && !isTy .bool d) = false) : law_.run (n+4) 11 [.v d] = .exc 1 [] [.v d] := by
  rw [r11, callF_end _ _ _ rfl rfl]
  simp [d_date_of, b_date_of, run_nonum (n+1) d h]
theorem run_out11 (n : Nat) {i : Int} (h : i < 0 ∨ ahead 3000 ≤ i) : law_.run (n+4) 11 [.v (.int i)] = .exc 1 [] [.v (.int i)] := by
  rw [r11, callF_end _ _ _ rfl rfl]
  rcases h with h | h
  · have : ¬ 0 ≤ i := by omega
    simp [d_date_of, b_date_of, this]
  · by_cases h0 : 0 ≤ i
    · simp [d_date_of, b_date_of, h0, h]
    · simp [d_date_of, b_date_of, h0]
theorem run_refused (n : Nat) {h : List D} (hh : Hand h) : ∃ h', Hand h' ∧ law_.run (n+7) 25 [.fl h] = .ret (.v (.bl true)) [.fl h'] := by
  rw [r25, callF_end _ _ _ rfl rfl]
  obtain ⟨d, h1, hd, hh1, e1⟩ := run_lnodate (n+3) hh
  have hlast := run_lnumber (n+3) val_last
  have hn : num 2999 12 31 = ahead 3000 - 1 := by decide
  obtain ⟨os, hos⟩ : ∃ os : List D, os = [.int (-1), .int (num 2999 12 31 + 1), .bl true, .non, .str [48], .tup [.int 0], .lst [], .int 100000000000, .dct [] [], deep (.int 0)] := ⟨_, rfl⟩
  have hl : 0 < os.length ∧ os.length < 1000000 := by rw [hos]; simp
  have m2 := someV_mem hh1 hl.1 hl.2
  have e2 := run_some (n+4) hh1 hl.1 hl.2
  have hh2 := someH_hand hh1 hl.1 hl.2
  generalize someV h1 os = x at *
  generalize someH h1 os = h2 at *
  have e3 : law_.run (n+6) 11 [.v x] = .exc 1 [] [.v x] := by
    rw [hos] at m2
    simp only [List.mem_cons, List.not_mem_nil, or_false] at m2
    rcases m2 with rfl | rfl | rfl | rfl | rfl | rfl | rfl | rfl | rfl | rfl
    · exact run_out11 (n+2) (.inl (by decide))
    · exact run_out11 (n+2) (.inr (by rw [hn]; omega))
    · exact run_no11 (n+2) rfl
    · exact run_no11 (n+2) rfl
    · exact run_no11 (n+2) rfl
    · exact run_no11 (n+2) rfl
    · exact run_no11 (n+2) rfl
    · exact run_out11 (n+2) (.inr (by decide))
    · exact run_no11 (n+2) rfl
    · exact run_no11 (n+2) rfl
  refine ⟨h2, hh2, ?_⟩
  have e4 := run_no10 (n+1) hd
  have e5 := run_no12 n hd
  subst hos
  simp only [date, deep] at e2 hlast
  simp [d_law_refused_right, b_law_refused_right, e1, hlast, run_deep, e2, e3, e4, e5, flag_1, flag_2, sem_eqK]
/-- a day and the next -/
theorem run_isday (n : Nat) {y m d : Int} (v : Valid y m d) : law_.run (n+8) 24 [.v (date y m d)] = .ret (.v (.bl true)) [.v (date y m d)] := by
  rw [r24, callF_end _ _ _ rfl rfl]
  have e1 := run_lnumber (n+4) v
  have e2 := run_dayno (n+2) v
  have e3 := run_weekday (n+1) v
  have e4 := run_dateof (n+3) v
  have s1 : Same (n+7) (.lst [.int (num y m d), .int (num y m d % 7), date y m d]) := same_lst (n+6) _ (by simp) (by
    intro x hx
    simp only [List.mem_cons, List.not_mem_nil, or_false] at hx
    rcases hx with rfl | rfl | rfl
    · exact same_int _ _
    · exact same_int _ _
    · exact same_date _ _ _ _)
  unfold Same at s1
  by_cases hlast : y = 2999 ∧ m = 12 ∧ d = 31
  · obtain ⟨rfl, rfl, rfl⟩ := hlast
    have hn : num 2999 12 31 = ahead 3000 - 1 := by decide
    have e5 := run_out11 (n+3) (i := num 2999 12 31 + 1) (.inr (by rw [hn]; omega))
    simp only [date] at e1 e2 e3 e4 s1
    simp [d_law_is_day, b_law_is_day, date, e1, e2, e3, e4, e5, s1, sem_eqK, flag_1]
  · have hne : date y m d ≠ date 2999 12 31 := fun h => hlast (by simpa [date] using h)
    obtain ⟨y', m', d', v', hn, e5⟩ := run_next (n+4) v (num_last v hne)
    have f2 := run_dayno (n+2) v'
    have f3 := run_weekday (n+1) v'
    have f4 := run_dateof (n+3) v'
    rw [hn] at f2 f3 f4
    have s2 : Same (n+7) (.lst [.int (num y m d + 1), .int ((num y m d + 1) % 7), date y' m' d']) := same_lst (n+6) _ (by simp) (by
      intro x hx
      simp only [List.mem_cons, List.not_mem_nil, or_false] at hx
      rcases hx with rfl | rfl | rfl
      · exact same_int _ _
      · exact same_int _ _
      · exact same_date _ _ _ _)
    unfold Same at s2
    simp only [date] at e1 e2 e3 e4 e5 s1 s2 f2 f3 f4
    have hl2 : (decide (y = 2999) && (decide (m = 12) && decide (d = 31))) = false := by
      simp
      intro a b c
      exact hlast ⟨a, b, c⟩
    simp [d_law_is_day, b_law_is_day, date, e1, e2, e3, e4, e5, s1, s2, f2, f3, f4, sem_eqK, flag_1, hl2]
end K73
end
section
set_option Elab.async false
set_option linter.all false
set_option maxRecDepth 100000
set_option maxHeartbeats 4000000
/-! k73: what is known, the law. -/
namespace K73
open Py
theorem val_known : Valid 1900 1 1 ∧ Valid 2000 3 1 ∧ Valid 1900 3 1 ∧ Valid 2000 2 29 ∧ Valid 1970 1 1 := by
  refine ⟨⟨?_, ?_, ?_, ?_, ?_, ?_⟩, ⟨?_, ?_, ?_, ?_, ?_, ?_⟩, ⟨?_, ?_, ?_, ?_, ?_, ?_⟩, ⟨?_, ?_, ?_, ?_, ?_, ?_⟩, ⟨?_, ?_, ?_, ?_, ?_, ?_⟩⟩ <;> decide
theorem run_known (n : Nat) : law_.run (n+8) 26 [] = .ret (.v (.bl true)) [] := by
  rw [r26, callF_end _ _ _ rfl rfl]
  obtain ⟨v1, v2, v3, v4, v5⟩ := val_known
  have a1 := run_dayno (n+2) v1
  have a2 := run_weekday (n+1) v1
  have a3 := run_dayno (n+2) v2
  have a4 := run_weekday (n+1) v2
  have a5 := run_dateof (n+3) v1
  have a6 := run_dateof (n+3) v3
  have a7 := run_dateof (n+3) v4
  have a8 := run_weekday (n+1) v5
  have a9 := run_dayno (n+2) v5
  have n1 : num 1900 1 1 = 0 := by decide
  have n2 : num 2000 3 1 = 36584 := by decide
  have n3 : num 1900 3 1 = 59 := by decide
  have n4 : num 2000 2 29 = 36583 := by decide
  have n5 : num 1970 1 1 = 25567 := by decide
  rw [n1] at a1 a2 a5
  rw [n2] at a3 a4
  rw [n3] at a6
  rw [n4] at a7
  rw [n5] at a8 a9
  have s1 : Same (n+7) (.lst [.int 0, .int 0, .int 36584, .int 2, date 1900 1 1, date 1900 3 1, date 2000 2 29, .int 3, .int 25567]) := same_lst (n+6) _ (by simp) (by
    intro x hx
    simp only [List.mem_cons, List.not_mem_nil, or_false] at hx
    rcases hx with rfl | rfl | rfl | rfl | rfl | rfl | rfl | rfl | rfl
    · exact same_int _ _
    · exact same_int _ _
    · exact same_int _ _
    · exact same_int _ _
    · exact same_date _ _ _ _
    · exact same_date _ _ _ _
    · exact same_date _ _ _ _
    · exact same_int _ _
    · exact same_int _ _)
  unfold Same at s1
  simp only [date] at a1 a2 a3 a4 a5 a6 a7 a8 a9 s1
  simp [d_law_is_known, b_law_is_known, a1, a2, a3, a4, a5, a6, a7, a8, a9, s1]
def bL : Ss := .cons (.ite (.or (.cons (.not (.call 24 (.cons (.call 22 (.cons (.bor 1) .nil)) .nil))) (.cons (.not (.call 25 (.cons (.bor 1) .nil))) .nil))) (.cons (.ret (.bl false)) .nil) .nil) .nil
theorem law_turns (n : Nat) (s : O) : ∀ (xs : List D) (h : List D) (t u : O), Hand h → ∃ h' t', Hand h' ∧ forN (.name 2) (execs (law_.cfg (law_.run (n+8))) bL) xs [s, .fl h, t, u] = .ok .nxt [s, .fl h', t', u]
  | [], h, t, u, hh => ⟨h, t, hh, by rw [for_nil]⟩
  | x :: xs, h, t, u, hh => by
    obtain ⟨y, m, d, h1, v, hh1, e1⟩ := run_ldate (n+5) hh
    obtain ⟨h2, hh2, e2⟩ := run_refused (n+1) hh1
    have e3 := run_isday n v
    obtain ⟨h3, t', hh3, e4⟩ := law_turns n s xs h2 (.v x) u hh2
    refine ⟨h3, t', hh3, ?_⟩
    rw [for_cons]
    simp [bL, e1, e2, e3]
    exact e4
theorem run_law (n : Nat) (ns : List Int) (hl : ns.length ≤ 63) : ∃ fin, law_.run (n+9) 27 [.v (.lst (ns.map .int))] = .ret (.v (.bl true)) fin := by
  obtain ⟨h, hh, e1⟩ := run_hand (n+7) ns hl
  obtain ⟨h2, t, hh2, e2⟩ := law_turns n (.v (.lst (ns.map .int))) (rangeL 0 20) h .un .un hh
  have hn : num 2999 12 31 = 401766 := by decide
  have e3 := run_lnumber (n+5) val_last
  rw [hn] at e3
  have a1 := drawV_ge (l := 401766) hh2 (by omega) (by omega)
  have a2 := drawV_lt (l := 401766) hh2 (by omega) (by omega)
  have e4 := run_draw (n+7) (l := 401766) hh2 (by omega) (by omega)
  generalize drawV h2 401766 = N at *
  have hN : ahead 3000 = 401767 := by decide
  obtain ⟨y, m, d, v, hv⟩ := is_num N a1 (by omega)
  have e5 := run_dateof (n+4) v
  have e6 := run_dayno (n+3) v
  rw [hv] at e5 e6
  have s1 := same_int (n+7) N
  unfold Same at s1
  have e7 := run_isday n val_last
  have e8 := run_known n
  refine ⟨[.v (.lst (ns.map .int))], ?_⟩
  rw [r27, callF_end _ _ _ rfl rfl]
  simp only [bL] at e2
  simp only [date] at e3 e7
  simp [d_law, b_law, e1, e2, e3, e4, e5, e6, e7, e8, s1]
theorem pure_ : ∀ ns : List Int, ns.length ≤ 63 → ∃ fin, law_.run 30 27 [.v (.lst (ns.map .int))] = .ret (.v (.bl true)) fin := fun ns h => run_law 21 ns h
end K73
end
section
set_option Elab.async false
set_option linter.all false
set_option maxRecDepth 100000
set_option maxHeartbeats 0
open PySem PySem.W PySem.Calls PyProof.Rows
theorem PySem.Challenge.cw_hourwright_k73_days_and_dates_holds : PySem.Challenge.rw_hourwright_k73_days_and_dates.Holds := by
  w_on; o_law
  refine HandSHeadRun.head_any (r := OpenLaw.row PySem.Challenge.rw_hourwright_k73_days_and_dates) (q := view (OpenLaw.row PySem.Challenge.rw_hourwright_k73_days_and_dates).prog [41]) (H := K73.hk) (ob := K73.ob) (M := 3000) (loose := K73.names) (d := HandSHeadRun.topDef (OpenLaw.row PySem.Challenge.rw_hourwright_k73_days_and_dates).prog 41) (kwd := []) K73.ob_eq
    (by kernel_rfl) (fun s => by kernel_rfl) K73.run (by kernel_rfl) (by kernel_rfl) (by kernel_rfl) (by rfl) (by first | assumption | decide +kernel) (by decide +kernel) ⟨rfl, rfl, rfl, rfl, rfl, by decide +kernel⟩ ?hw ?hc
  case hw => w_witness2
  case hc => exact Py.walk_py (n := 63) (N0 := 30) (li := 27) (x := "script") K73.lawS rfl (by decide) (by kernel_rfl) ⟨rfl, by decide, by decide⟩ rfl (by kernel_rfl) (by kernel_rfl) K73.pure_
end
