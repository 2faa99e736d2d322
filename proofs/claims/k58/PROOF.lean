import PyProof.Rows.All
import Wide.All
import OpenK.AllK
import Wide.FinOn
import KE.KStateDown
import Lean
import HandS.ForMost
import HandS.Walk
import HandS.Deep
import HandS.Conv
import HandS.TupAny
import HandS.TupMul
import HandS.Style
import HandS.IsInst
import HandS.Star
import HandS.Wide
import HandS.Zip
import KE.SortData
import KE.GoesNew
import KE.GoesMore
import KE.GoesEnum
import HandS.Defaults
import HandS.Ends
import HandS.HeadEnd
import HandS.Words
import HandS.WordsExc
import HandS.Head0
import HandS.Head1
import HandS.Head2
import HandS.HeadHook1
import HandS.HeadHook2
import PySem.Challenge.RW_signedframes_k58_whole_arrows_and_readin
set_option Elab.async false
set_option linter.all false
set_option maxRecDepth 100000
set_option maxHeartbeats 0
/-! PV, part A: pure data, the small language, its run, the check against the model's tree. -/
namespace PV
open PySem PySem.Spec PyProof.Rows L2

abbrev D := PyData

/-- the law's source: its cells, what is left of the present one, the mixed number, the turn -/
structure Src where
  cells : List Int
  left : Int
  mixed : Int
  turn : Int

inductive SF | left | mixed | turn
  deriving DecidableEq
def Src.get (s : Src) : SF → Int
  | .left => s.left
  | .mixed => s.mixed
  | .turn => s.turn
def Src.put (s : Src) (f : SF) (i : Int) : Src := match f with
  | .left => { s with left := i }
  | .mixed => { s with mixed := i }
  | .turn => { s with turn := i }

/-! ### the small language -/
inductive Op2 | add | sub | mul | fdiv | mod | pow | shl
  deriving DecidableEq
inductive Cm | eq | ne | lt | le | gt | ge | inn | nin
  deriving DecidableEq
inductive Ty | int | bool | str | tuple | list | dict
  deriving DecidableEq
inductive Bi | len | tuple | list | int | abs | repr | max | min | sum | all | sorted
  deriving DecidableEq

mutual
inductive CT
  | name (i : Nat)
  | tup (ts : CTs)
inductive CTs
  | nil
  | cons (t : CT) (r : CTs)
end
mutual
inductive CE
  | var (i : Nat)
  | none | tru | fls
  | int (i : Int)
  | str (x : Str)
  | op (o : Op2) (a b : CE)
  | neg (a : CE)
  | cmp (o : Cm) (a b : CE)
  | chain (o p : Cm) (a b c : CE)
  | isN (a : CE) | notN (a : CE) | isT (a : CE) | notT (a : CE)
  | and (a b : CE) | or (a b : CE) | not (a : CE)
  | ite (c a b : CE)
  | tup (es : CEs) | lst (es : CEs)
  | ix (a i : CE)
  | sl (a : CE) (lo hi : CO)
  | rev (a : CE)
  | bi (b : Bi) (e : CE) (es : CEs)
  | isi (t : Ty) (a : CE)
  | call (f : Nat) (es : CEs)
  | lc (own : List (Str × Nat)) (tg : CT) (it : CI) (c : CO) (e : CE)
  | sInt (f : SF)
  | sCnt
  | rl1 (t : Bool) (a : CE)
  | rl2 (t : Bool) (a b : CE)
  | idx (i : Nat) (b : CE)
inductive CO
  | no
  | so (e : CE)
inductive CEs
  | nil
  | cons (e : CE) (r : CEs)
  | star (e : CE) (r : CEs)
inductive CI
  | val (e : CE)
  | rg1 (a : CE)
  | rg2 (a b : CE)
  | enum (a : CE)
  | zip (a b : CE)
  | zips (a b : CE)
end
mutual
inductive CS
  | asg (i : Nat) (me : List Nat) (e : CE)
  | asgT (t : CT) (me : List Nat) (e : CE)
  | par (is : List Nat) (es : CEs)
  | setx (i : Nat) (x : CE) (e : CE)
  | aug (i : Nat) (o : Op2) (e : CE)
  | augx (i : Nat) (x : CE) (o : Op2) (e : CE)
  | append (i : Nat) (e : CE)
  | fort (t : CT) (me : List Nat) (it : CI) (b : CSs)
  | wh (c : CE) (b : CSs)
  | ifs (c : CE) (a b : CSs)
  | ret (e : CE)
  | retN
  | drop (e : CE)
  | pass
  | sSet (f : SF) (e : CE)
  | sPop
  | parX (ts : List (Nat × CO)) (es : CEs)
  | popT (t : CT) (i : Nat) (o : CO)
  | retMix (own : List (Str × Nat)) (l i f : Nat)
  | extend (i : Nat) (e : CE)
  | parM (is : List Nat) (me : List Nat) (es : CEs)
inductive CSs
  | nil
  | cons (s : CS) (r : CSs)
end

/-! ### data -/
mutual
/-- no list and no dict within -/
def noL : D → Bool
  | .none | .bool _ | .int _ | .str _ => true
  | .tuple xs => noLs xs
  | .list _ | .dict _ => false
def noLs : List D → Bool
  | [] => true
  | x :: r => noL x && noLs r
end
/-- a thing just made: its lists are new -/
def frN : D → Bool
  | .list xs => noLs xs
  | .tuple _ | .dict _ => false
  | _ => true
/-- a thing from elsewhere: no list for sure -/
def frC : D → Bool
  | .list _ | .tuple _ | .dict _ => false
  | _ => true

abbrev Env := List (Option D)
def bigM : Nat := 2 ^ 400000
def bigD : Nat := 2 ^ 9000
def mulOk (i j : Int) : Bool := decide (i.natAbs < 2 ^ 64) || decide (j.natAbs < 2 ^ 64) || (decide (i.natAbs < bigM) && decide (j.natAbs < bigM))
def divOk (b : Int) : Bool := decide (0 < b) && decide (b.natAbs < bigD)
def powOk (i j : Int) : Bool := decide (0 ≤ j) && decide (j ≤ 1000000) && decide (i.natAbs < 2 ^ 64)
def fitsLine (n : Nat) : Bool := decide (n ≤ sizeLine)
def rep (xs : List D) (k : Int) : List D := (List.replicate k.toNat xs).flatten

def op2 : Op2 → D → D → Option D
  | .add, .int a, .int b => some (.int (a + b))
  | .add, .tuple a, .tuple b => if fitsLine (a.length + b.length) then some (.tuple (a ++ b)) else none
  | .add, .list a, .list b => if fitsLine (a.length + b.length) then some (.list (a ++ b)) else none
  | .sub, .int a, .int b => some (.int (a - b))
  | .mul, .int a, .int b => if mulOk a b then some (.int (a * b)) else none
  | .mul, .list a, .int k => if decide (-(2 ^ 63) ≤ k) && decide (k < 2 ^ 63) && fitsLine (a.length * k.toNat) then some (.list (rep a k)) else none
  | .mul, .tuple a, .int k => if decide (-1000 ≤ k) && decide (k ≤ 1000) && decide (a.length ≤ 1000) then some (.tuple (rep a k)) else none
  | .fdiv, .int a, .int b => if divOk b then some (.int (a / b)) else none
  | .pow, .int a, .int b => if powOk a b then some (.int (a ^ b.toNat)) else none
  | .shl, .int a, .int b => if powOk a b then some (.int (a * 2 ^ b.toNat)) else none
  | .mod, .int a, .int b => if decide (0 < b) then some (.int (a % b)) else none
  | _, _, _ => none

def cm2 : Cm → D → D → Option Bool
  | .lt, .int a, .int b => some (decide (a < b))
  | .le, .int a, .int b => some (decide (a ≤ b))
  | .gt, .int a, .int b => some (decide (b < a))
  | .ge, .int a, .int b => some (decide (b ≤ a))
  | .eq, a, b => if SeqAt.shaped a && SeqAt.shaped b then some (PyData.eqv a b) else none
  | .ne, a, b => if SeqAt.shaped a && SeqAt.shaped b then some (!PyData.eqv a b) else none
  | .inn, a, .list bs => if SeqAt.shaped a && SeqAt.shaped (.list bs) then some (bs.any fun z => PyData.eqv z a) else none
  | .nin, a, .list bs => if SeqAt.shaped a && SeqAt.shaped (.list bs) then some (!bs.any fun z => PyData.eqv z a) else none
  | .inn, a, .tuple bs => if SeqAt.shaped a && SeqAt.shaped (.tuple bs) then some (bs.any fun z => PyData.eqv z a) else none
  | .nin, a, .tuple bs => if SeqAt.shaped a && SeqAt.shaped (.tuple bs) then some (!bs.any fun z => PyData.eqv z a) else none
  | _, _, _ => none

def isNone : D → Bool
  | .none => true
  | _ => false
def asB : D → Option Bool
  | .bool b => some b
  | _ => none
def asI : D → Option Int
  | .int i => some i
  | _ => none
/-- the items of a list or a tuple -/
def items? : D → Option (List D)
  | .list xs => some xs
  | .tuple xs => some xs
  | _ => none
def ints? : List D → Option (List Int)
  | [] => some []
  | .int i :: r => (ints? r).map (i :: ·)
  | _ :: _ => none
def bools? : List D → Option (List Bool)
  | [] => some []
  | .bool i :: r => (bools? r).map (i :: ·)
  | _ :: _ => none
def cutD (xs : List D) (lo hi : Option Int) : List D := (xs.drop (HT.sIx xs.length 0 lo)).take (HT.sIx xs.length xs.length hi - HT.sIx xs.length 0 lo)
def ixD (xs : List D) (i : Int) : Option D := atI xs i
def tyOf : Ty → D → Bool
  | .int, .int _ => true
  | .int, .bool _ => true
  | .bool, .bool _ => true
  | .str, .str _ => true
  | .tuple, .tuple _ => true
  | .list, .list _ => true
  | .dict, .dict _ => true
  | _, _ => false
def reprOk (d : D) : Bool := d.showable && !d.hasDict && decide (d.depth ≤ 60) && fitsLine d.shown.length

/-- ints, as data -/
def isI : D → Bool
  | .int _ => true
  | _ => false
def isIT : D → Bool
  | .tuple (x :: r) => isI x && r.all isI
  | _ => false
/-- what may be sorted: ints, or tuples of ints -/
def srtOk (xs : List D) : Bool := xs.all isI || xs.all isIT
def srtD (xs : List D) : List D := xs.mergeSort (PySem.W.dataLe false id)
/-- a built-in function of one or two values -/
def bi1 : Bi → List D → Option D
  | .len, [.list xs] => some (.int xs.length)
  | .len, [.tuple xs] => some (.int xs.length)
  | .tuple, [.list xs] => some (.tuple xs)
  | .tuple, [.tuple xs] => some (.tuple xs)
  | .list, [.list xs] => some (.list xs)
  | .list, [.tuple xs] => some (.list xs)
  | .int, [.int i] => some (.int i)
  | .int, [.bool b] => some (.int (if b then 1 else 0))
  | .abs, [.int i] => some (.int (if i < 0 then -i else i))
  | .max, [.int i, .int j] => some (.int (if j > i then j else i))
  | .min, [.int i, .int j] => some (.int (if j < i then j else i))
  | .sum, [.list xs] => (ints? xs).map fun ns => .int ns.sum
  | .all, [.list xs] => (bools? xs).map fun bs => .bool (bs.all id)
  | .sorted, [.list xs] => if srtOk xs && fitsLine xs.length then some (.list (srtD xs)) else none
  | .repr, [d] => if reprOk d then some (.str d.shown) else none
  | _, _ => none
def biFr : Bi → D → Bool
  | .tuple, _ => false
  | _, d => frN d

def setE (env : Env) (i : Nat) (d : D) : Env := env.set i (some d)
mutual
/-- a target takes a value -/
def asgT : CT → D → Env → Option Env
  | .name i, d, env => some (setE env i d)
  | .tup ts, .tuple ds, env => asgTs ts ds env
  | .tup _, _, _ => none
def asgTs : CTs → List D → Env → Option Env
  | .nil, [], env => some env
  | .cons t r, d :: ds, env => (asgT t d env).bind fun e => asgTs r ds e
  | _, _, _ => none
end
def wipeE (env : Env) : List Nat → Env
  | [] => env
  | v :: vs => (wipeE env vs).set v none
def pairs : List D → List D → List D := List.zipWith fun a b => .tuple [a, b]
def enumD (xs : List D) : List D := pairs ((List.range xs.length).map fun i => .int (i : Nat)) xs
def rangeD (lo : Int) (n : Nat) : List D := (List.range n).map fun i => .int (lo + (i : Nat))
def okRg (i j : Int) : Bool := decide (-(2 ^ 62) ≤ i) && decide (i < 2 ^ 62) && decide (-(2 ^ 62) ≤ j) && decide (j < 2 ^ 62)

/-- the first place of an equal one -/
def fstIx (d : D) : List D → Option Nat
  | [] => none
  | z :: r => if PyData.eqv z d then some 0 else (fstIx d r).map (· + 1)
def seqOf (t : Bool) (xs : List D) : D := match t with | true => .tuple xs | false => .list xs
/-- what the module's defs do, by number -/
abbrev CallF := Nat → List D → Src → Option (D × Src)

section
variable (cf : CallF)
/-- a comprehension's turns -/
def lcGo (f : D → Src → Option (Option (D × Bool) × Src)) : List D → Src → Option (List D × Bool × Src)
  | [], s => some ([], true, s)
  | d :: r, s => match f d s with
    | none => none
    | some (none, s1) => lcGo f r s1
    | some (some (x, fr), s1) => match lcGo f r s1 with
      | none => none
      | some (xs, frs, s2) => some (x :: xs, (fr || noL x) && frs, s2)
/-- one turn: the target, the test, the element -/
def lcTurn (g : D → Option Env) (c : Env → Src → Option (Bool × Src)) (e : Env → Src → Option (D × Bool × Src)) (d : D) (s : Src) : Option (Option (D × Bool) × Src) := match g d with
  | some env => match c env s with
    | some (true, s1) => match e env s1 with
      | some (x, fr, s2) => some (some (x, fr), s2)
      | none => none
    | some (false, s1) => some (none, s1)
    | none => none
  | none => none
mutual
def run : CE → Env → Src → Option (D × Bool × Src)
  | .var i, env, s => match env[i]? with
    | some (some d) => some (d, frC d, s)
    | _ => none
  | .none, _, s => some (.none, true, s)
  | .tru, _, s => some (.bool true, true, s)
  | .fls, _, s => some (.bool false, true, s)
  | .int i, _, s => some (.int i, true, s)
  | .str x, _, s => some (.str x, true, s)
  | .op o a b, env, s => match run a env s with
    | some (x, _, s1) => match run b env s1 with
      | some (y, _, s2) => (op2 o x y).map fun z => (z, frN z, s2)
      | none => none
    | none => none
  | .neg a, env, s => match run a env s with
    | some (.int i, _, s1) => some (.int (-i), true, s1)
    | _ => none
  | .cmp o a b, env, s => match run a env s with
    | some (x, _, s1) => match run b env s1 with
      | some (y, _, s2) => (cm2 o x y).map fun z => (.bool z, true, s2)
      | none => none
    | none => none
  | .chain o p a b c, env, s => match run a env s with
    | some (x, _, s1) => match run b env s1 with
      | some (y, _, s2) => match cm2 o x y with
        | some true => match run c env s2 with
          | some (z, _, s3) => (cm2 p y z).map fun r => (.bool r, true, s3)
          | none => none
        | some false => some (.bool false, true, s2)
        | none => none
      | none => none
    | none => none
  | .isN a, env, s => match run a env s with
    | some (x, _, s1) => some (.bool (isNone x), true, s1)
    | none => none
  | .notN a, env, s => match run a env s with
    | some (x, _, s1) => some (.bool (!isNone x), true, s1)
    | none => none
  | .isT a, env, s => match run a env s with
    | some (.bool b, _, s1) => some (.bool b, true, s1)
    | _ => none
  | .notT a, env, s => match run a env s with
    | some (.bool b, _, s1) => some (.bool (!b), true, s1)
    | _ => none
  | .and a b, env, s => match run a env s with
    | some (.bool true, _, s1) => run b env s1
    | some (.bool false, _, s1) => some (.bool false, true, s1)
    | _ => none
  | .or a b, env, s => match run a env s with
    | some (.bool true, _, s1) => some (.bool true, true, s1)
    | some (.bool false, _, s1) => run b env s1
    | _ => none
  | .not a, env, s => match run a env s with
    | some (.bool b, _, s1) => some (.bool (!b), true, s1)
    | _ => none
  | .ite c a b, env, s => match run c env s with
    | some (.bool true, _, s1) => run a env s1
    | some (.bool false, _, s1) => run b env s1
    | _ => none
  | .tup es, env, s => match runs es env s with
    | some (xs, fr, s1) => if fitsLine xs.length then some (.tuple xs, fr, s1) else none
    | none => none
  | .lst es, env, s => match runs es env s with
    | some (xs, fr, s1) => if fitsLine xs.length then some (.list xs, fr, s1) else none
    | none => none
  | .ix a i, env, s => match run a env s with
    | some (x, _, s1) => match run i env s1 with
      | some (.int k, _, s2) => match items? x with
        | some xs => (ixD xs k).map fun d => (d, frC d, s2)
        | none => none
      | _ => none
    | none => none
  | .sl a lo hi, env, s => match run a env s with
    | some (x, _, s1) => match runO lo env s1 with
      | some (l, s2) => match runO hi env s2 with
        | some (h, s3) => match x with
          | .list xs => some (.list (cutD xs l h), noLs (cutD xs l h), s3)
          | .tuple xs => some (.tuple (cutD xs l h), false, s3)
          | _ => none
        | none => none
      | none => none
    | none => none
  | .rev a, env, s => match run a env s with
    | some (.list xs, _, s1) => some (.list xs.reverse, noLs xs, s1)
    | _ => none
  | .bi b e es, env, s => match run e env s with
    | some (x, _, s1) => match runs es env s1 with
      | some (xs, _, s2) => (bi1 b (x :: xs)).map fun z => (z, biFr b z, s2)
      | none => none
    | none => none
  | .isi t a, env, s => match run a env s with
    | some (x, _, s1) => some (.bool (tyOf t x), true, s1)
    | none => none
  | .call f es, env, s => match runs es env s with
    | some (xs, _, s1) => (cf f xs s1).map fun (z, s2) => (z, frC z, s2)
    | none => none
  | .lc own tg it c e, env, s => match runI it env s with
    | some (ds, _, s1) =>
      if fitsLine ds.length then
        match lcGo (lcTurn (fun d => asgT tg d (wipeE env (own.map (·.2)))) (runC c) (run e)) ds s1 with
        | some (xs, fr, s2) => some (.list xs, fr, s2)
        | none => none
      else none
    | none => none
  | .sInt f, _, s => some (.int (s.get f), true, s)
  | .sCnt, _, s => some (.int s.cells.length, true, s)
  | .rl1 t a, env, s => match run a env s with
    | some (.int j, _, s1) => if okRg 0 j && fitsLine j.toNat then some (seqOf t (rangeD 0 j.toNat), true, s1) else none
    | _ => none
  | .rl2 t a b, env, s => match run a env s with
    | some (.int i, _, s1) => match run b env s1 with
      | some (.int j, _, s2) => if okRg i j && fitsLine (j - i).toNat then some (seqOf t (rangeD i (j - i).toNat), true, s2) else none
      | _ => none
    | _ => none
  | .idx i b, env, s => match run b env s with
    | some (d, _, s1) => match env[i]? with
      | some (some (.list xs)) => if SeqAt.shaped d && SeqAt.shaped (.list xs) then (fstIx d xs).map fun j => (.int (j : Nat), true, s1) else none
      | _ => none
    | none => none
def runC : CO → Env → Src → Option (Bool × Src)
  | .no, _, s => some (true, s)
  | .so e, env, s => match run e env s with
    | some (.bool b, _, s1) => some (b, s1)
    | _ => none
def runO : CO → Env → Src → Option (Option Int × Src)
  | .no, _, s => some (none, s)
  | .so e, env, s => match run e env s with
    | some (.int i, _, s1) => some (some i, s1)
    | _ => none
def runs : CEs → Env → Src → Option (List D × Bool × Src)
  | .nil, _, s => some ([], true, s)
  | .cons e r, env, s => match run e env s with
    | some (x, fr, s1) => match runs r env s1 with
      | some (xs, frs, s2) => some (x :: xs, (fr || noL x) && frs, s2)
      | none => none
    | none => none
  | .star e r, env, s => match run e env s with
    | some (x, _, s1) => match items? x with
      | some ys => match runs r env s1 with
        | some (xs, frs, s2) => some (ys ++ xs, noLs ys && frs, s2)
        | none => none
      | none => none
    | none => none
/-- the items; whether the things walked hold no list and are no list that stands elsewhere -/
def runI : CI → Env → Src → Option (List D × Bool × Src)
  | .val e, env, s => match run e env s with
    | some (x, fr, s1) => (items? x).map fun xs => (xs, fr || noL x, s1)
    | none => none
  | .rg1 a, env, s => match run a env s with
    | some (.int j, _, s1) => if okRg 0 j then some (rangeD 0 j.toNat, true, s1) else none
    | _ => none
  | .rg2 a b, env, s => match run a env s with
    | some (.int i, _, s1) => match run b env s1 with
      | some (.int j, _, s2) => if okRg i j then some (rangeD i (j - i).toNat, true, s2) else none
      | _ => none
    | _ => none
  | .enum a, env, s => match run a env s with
    | some (x, fr, s1) => (items? x).map fun xs => (enumD xs, fr || noL x, s1)
    | none => none
  | .zip a b, env, s => match run a env s with
    | some (x, fr, s1) => match run b env s1 with
      | some (y, fr2, s2) => match items? x, items? y with
        | some xs, some ys => some (pairs xs ys, (fr || noL x) && (fr2 || noL y), s2)
        | _, _ => none
      | none => none
    | none => none
  | .zips a b, env, s => match run a env s with
    | some (x, fr, s1) => match run b env s1 with
      | some (y, fr2, s2) => match items? x, items? y with
        | some xs, some ys => if xs.length = ys.length then some (pairs xs ys, (fr || noL x) && (fr2 || noL y), s2) else none
        | _, _ => none
      | none => none
    | none => none
end

/-! ### statements -/
/-- the slots (with «no one else has its lists») and the source -/
structure S where
  env : List (Option (D × Bool))
  src : Src
def vals (l : List (Option (D × Bool))) : Env := l.map fun o => o.map (·.1)
def maskC (me : List Nat) : Nat → Env → Env
  | _, [] => []
  | i, o :: r => (if me.contains i then o else none) :: maskC me (i + 1) r
def mask (me : List Nat) (env : Env) : Env := maskC me 0 env
def frzC (me : List Nat) : Nat → List (Option (D × Bool)) → List (Option (D × Bool))
  | _, [] => []
  | i, o :: r => (if me.contains i then o.map fun p => (p.1, p.2 && noL p.1) else o) :: frzC me (i + 1) r
def frz (me : List Nat) (l : List (Option (D × Bool))) : List (Option (D × Bool)) := frzC me 0 l
def S.put (st : S) (i : Nat) (d : D) (o : Bool) (s : Src) : S := ⟨st.env.set i (some (d, o)), s⟩
mutual
/-- a target takes a value of which nobody knows whose lists it has -/
def putT : CT → D → List (Option (D × Bool)) → Option (List (Option (D × Bool)))
  | .name i, d, env => some (env.set i (some (d, noL d)))
  | .tup ts, .tuple ds, env => putTs ts ds env
  | .tup _, _, _ => none
def putTs : CTs → List D → List (Option (D × Bool)) → Option (List (Option (D × Bool)))
  | .nil, [], env => some env
  | .cons t r, d :: ds, env => (putT t d env).bind fun e => putTs r ds e
  | _, _, _ => none
end
inductive Fl
  | nx
  | rt (d : D)
/-- an expression's value, for a store: what it may share is frozen -/
def forStore (e : CE) (me : List Nat) (st : S) : Option (D × Bool × S) := match run cf e (vals st.env) st.src with
  | some (d, fr, s) => if fr || noL d then some (d, true, ⟨st.env, s⟩) else match run cf e (mask me (vals st.env)) st.src with
    | some (d, _, s) => some (d, false, ⟨frz me st.env, s⟩)
    | none => none
  | none => none
/-- what a loop walks; what it may share is frozen -/
def forWalk (it : CI) (me : List Nat) (st : S) : Option (List D × S) := match runI cf it (vals st.env) st.src with
  | some (ds, fr, s) => if fr then some (ds, ⟨st.env, s⟩) else match runI cf it (mask me (vals st.env)) st.src with
    | some (ds, _, s) => some (ds, ⟨frz me st.env, s⟩)
    | none => none
  | none => none
/-- values stored one after another -/
def putAll : List Nat → List D → List (Option (D × Bool)) → Option (List (Option (D × Bool)))
  | [], [], env => some env
  | i :: r, d :: ds, env => putAll r ds (env.set i (some (d, true)))
  | _, _, _ => none
/-- .. that may share their lists -/
def putAllM : List Nat → List D → List (Option (D × Bool)) → Option (List (Option (D × Bool)))
  | [], [], env => some env
  | i :: r, d :: ds, env => putAllM r ds (env.set i (some (d, noL d)))
  | _, _, _ => none
/-- a op= b of ints -/
def iop2 : Op2 → Int → Int → Option Int
  | .add, a, b => some (a + b)
  | .sub, a, b => some (a - b)
  | .mul, a, b => if decide (a.natAbs < 2 ^ 64) || decide (b.natAbs < 2 ^ 64) then some (a * b) else none
  | _, _, _ => none
def forLoop (t : CT) (f : S → Option (Fl × S)) : List D → S → Option (Fl × S)
  | [], st => some (.nx, st)
  | d :: r, st => match putT t d st.env with
    | some env => match f ⟨env, st.src⟩ with
      | some (.nx, st1) => forLoop t f r st1
      | some (.rt d, st1) => some (.rt d, st1)
      | none => none
    | none => none
def whLoop (c : S → Option (Bool × S)) (f : S → Option (Fl × S)) : Nat → S → Option (Fl × S)
  | 0, _ => none
  | n + 1, st => match c st with
    | some (true, st1) => match f st1 with
      | some (.nx, st2) => whLoop c f n st2
      | some (.rt d, st2) => some (.rt d, st2)
      | none => none
    | some (false, st1) => some (.nx, st1)
    | none => none
/-- values stored one after another, in slots or in lists of one's own -/
def putX : List (Nat × CO) → List D → S → Option S
  | [], [], st => some st
  | (i, .no) :: r, d :: ds, st => putX r ds ⟨st.env.set i (some (d, true)), st.src⟩
  | (i, .so x) :: r, d :: ds, st => match run cf x (vals st.env) st.src with
    | some (.int k, _, s2) => match st.env[i]? with
      | some (some (.list xs, true)) => match ixN xs.length k with
        | some j => putX r ds ⟨st.env.set i (some (.list (xs.set j d), true)), s2⟩
        | none => none
      | _ => none
    | _ => none
  | _, _, _ => none
/-- drawn out of a list, one after another -/
def mixGo (f : Nat) : Nat → List D → Src → Option (List D × Src)
  | 0, _, s => some ([], s)
  | n + 1, xs, s => match cf f [.int xs.length] s with
    | some (.int r, s1) => match ixN xs.length r with
      | some j => match xs[j]? with
        | some d => (mixGo f n (xs.eraseIdx j) s1).map fun p => (d :: p.1, p.2)
        | none => none
      | none => none
    | _ => none
variable (W : Nat)
mutual
def ex : CS → S → Option (Fl × S)
  | .asg i me e, st => match forStore cf e me st with
    | some (d, o, st1) => some (.nx, ⟨st1.env.set i (some (d, o)), st1.src⟩)
    | none => none
  | .asgT t me e, st => match forStore cf e me st with
    | some (d, _, st1) => (putT t d st1.env).map fun env => (.nx, ⟨env, st1.src⟩)
    | none => none
  | .par is es, st => match runs cf es (vals st.env) st.src with
    | some (ds, fr, s1) => if fr && fitsLine ds.length then (putAll is ds st.env).map fun env => (.nx, ⟨env, s1⟩) else none
    | none => none
  | .setx i x e, st => match run cf e (vals st.env) st.src with
    | some (d, fr, s1) => if fr || noL d then (match run cf x (vals st.env) s1 with
        | some (.int k, _, s2) => match st.env[i]? with
          | some (some (.list xs, true)) => match ixN xs.length k with
            | some j => some (.nx, ⟨st.env.set i (some (.list (xs.set j d), true)), s2⟩)
            | none => none
          | _ => none
        | _ => none) else none
    | none => none
  | .aug i o e, st => match st.env[i]? with
    | some (some (.int a, _)) => match run cf e (vals st.env) st.src with
      | some (.int b, _, s1) => match iop2 o a b with
        | some d => some (.nx, ⟨st.env.set i (some (.int d, true)), s1⟩)
        | none => none
      | _ => none
    | _ => none
  | .augx i x o e, st => match run cf x (vals st.env) st.src with
    | some (.int k, _, s1) => match st.env[i]? with
      | some (some (.list xs, true)) => match ixN xs.length k with
        | some j => if decide (0 ≤ k) && decide (k < 2 ^ 62) then (match xs[j]? with
          | some (.int a) => match run cf e (vals st.env) s1 with
            | some (.int b, _, s2) => match iop2 o a b with
              | some d => some (.nx, ⟨st.env.set i (some (.list (xs.set j (.int d)), true)), s2⟩)
              | none => none
            | _ => none
          | _ => none) else none
        | none => none
      | _ => none
    | _ => none
  | .append i e, st => match st.env[i]? with
    | some (some (.list xs, true)) => match run cf e (vals st.env) st.src with
      | some (d, fr, s1) => if (fr || noL d) && fitsLine (xs.length + 1) then some (.nx, ⟨st.env.set i (some (.list (xs ++ [d]), true)), s1⟩) else none
      | none => none
    | _ => none
  | .parM is me es, st => match runs cf es (vals st.env) st.src with
    | some (ds, fr, s1) => if fr then (if fitsLine ds.length then (putAll is ds st.env).map fun env => (.nx, ⟨env, s1⟩) else none) else match runs cf es (mask me (vals st.env)) st.src with
      | some (ds, _, s1) => if fitsLine ds.length then (putAllM is ds (frz me st.env)).map fun env => (.nx, ⟨env, s1⟩) else none
      | none => none
    | none => none
  | .extend i e, st => match st.env[i]? with
    | some (some (.list xs, true)) => match run cf e (vals st.env) st.src with
      | some (.list ys, fr, s1) => if (fr || noLs ys) && fitsLine (xs.length + ys.length) then some (.nx, ⟨st.env.set i (some (.list (xs ++ ys), true)), s1⟩) else none
      | _ => none
    | _ => none
  | .fort t me it b, st => match forWalk cf it me st with
    | some (ds, st1) => forLoop t (fun st => exs b st) ds st1
    | none => none
  | .wh c b, st => whLoop (fun st => match run cf c (vals st.env) st.src with
      | some (.bool v, _, s1) => some (v, ⟨st.env, s1⟩)
      | _ => none) (fun st => exs b st) (W + st.src.cells.length) st
  | .ifs c a b, st => match run cf c (vals st.env) st.src with
    | some (.bool true, _, s1) => exs a ⟨st.env, s1⟩
    | some (.bool false, _, s1) => exs b ⟨st.env, s1⟩
    | _ => none
  | .ret e, st => match run cf e (vals st.env) st.src with
    | some (d, _, s1) => some (.rt d, ⟨st.env, s1⟩)
    | none => none
  | .retN, st => some (.rt .none, st)
  | .drop e, st => match run cf e (vals st.env) st.src with
    | some (_, _, s1) => some (.nx, ⟨st.env, s1⟩)
    | none => none
  | .pass, st => some (.nx, st)
  | .sSet f e, st => match run cf e (vals st.env) st.src with
    | some (.int i, _, s1) => some (.nx, ⟨st.env, s1.put f i⟩)
    | _ => none
  | .sPop, st => match st.src.cells.getLast? with
    | some i => some (.nx, ⟨st.env, { st.src with cells := st.src.cells.dropLast, left := i }⟩)
    | none => none
  | .parX ts es, st => match runs cf es (vals st.env) st.src with
    | some (ds, fr, s1) => if fr && fitsLine ds.length then (putX cf ts ds ⟨st.env, s1⟩).map fun st1 => (.nx, st1) else none
    | none => none
  | .popT t i o, st => match st.env[i]? with
    | some (some (.list xs, true)) => if noLs xs then (match o with
      | .no => match xs.getLast? with
        | some d => (putT t d (st.env.set i (some (.list xs.dropLast, true)))).map fun env => (.nx, ⟨env, st.src⟩)
        | none => none
      | .so e => match run cf e (vals st.env) st.src with
        | some (.int k, _, s1) => if okRg k k then (match ixN xs.length k with
          | some j => match xs[j]? with
            | some d => (putT t d (st.env.set i (some (.list (xs.eraseIdx j), true)))).map fun env => (.nx, ⟨env, s1⟩)
            | none => none
          | none => none) else none
        | _ => none) else none
    | _ => none
  | .retMix _ _ i f, st => match st.env[i]? with
    | some (some (.list xs, true)) => if noLs xs && decide (xs.length ≤ 10000000) then (match mixGo cf f xs.length xs st.src with
      | some (ds, s1) => some (.rt (.list ds), ⟨st.env, s1⟩)
      | none => none) else none
    | _ => none
def exs : CSs → S → Option (Fl × S)
  | .nil, st => some (.nx, st)
  | .cons a r, st => match ex a st with
    | some (.nx, st1) => exs r st1
    | some (.rt d, st1) => some (.rt d, st1)
    | none => none
end
end
end PV

/-! PV, part B: how data lies in the abstract heap; readings. -/
namespace PV
open PySem PySem.Spec PyProof.Rows L2

mutual
/-- v is the data d in H; as: the lists within, none of them the source's cells -/
inductive Rp (ca : Addr) (H : Hp) : V → D → List Addr → Prop
  | non : Rp ca H .non .none []
  | bl (b : Bool) : Rp ca H (.bl b) (.bool b) []
  | int (i : Int) : Rp ca H (.int i) (.int i) []
  | str (x : Str) : Rp ca H (.str x) (.str x) []
  | lst {a : Addr} {xs : List V} {ds : List D} {as : List Addr} : H a = some (.lst xs) → a ≠ ca → RpAll ca H xs ds as → Rp ca H (.ref a) (.list ds) (a :: as)
  | tup {a : Addr} {xs : List V} {ds : List D} {as : List Addr} : H a = some (.tup xs) → RpAll ca H xs ds as → Rp ca H (.ref a) (.tuple ds) as
inductive RpAll (ca : Addr) (H : Hp) : List V → List D → List Addr → Prop
  | nil : RpAll ca H [] [] []
  | cons {v : V} {vs : List V} {d : D} {ds : List D} {as bs : List Addr} : Rp ca H v d as → RpAll ca H vs ds bs → RpAll ca H (v :: vs) (d :: ds) (as ++ bs)
end
section
variable {ca : Addr} {H H' : Hp}
mutual
theorem Rp.noL_nil : ∀ {d : D} {v : V} {as : List Addr}, Rp ca H v d as → noL d = true → as = []
  | .none, _, _, h, _ => by cases h; rfl
  | .bool _, _, _, h, _ => by cases h; rfl
  | .int _, _, _, h, _ => by cases h; rfl
  | .str _, _, _, h, _ => by cases h; rfl
  | .list _, _, _, _, h => by simp [noL] at h
  | .dict _, _, _, _, h => by simp [noL] at h
  | .tuple ds, _, _, h, q => by
    cases h with
    | tup _ ha => exact RpAll.noL_nil ha (by simpa [noL] using q)
theorem RpAll.noL_nil : ∀ {ds : List D} {vs : List V} {as : List Addr}, RpAll ca H vs ds as → noLs ds = true → as = []
  | [], _, _, h, _ => by cases h; rfl
  | d :: ds, _, _, h, q => by
    cases h with
    | cons h1 h2 =>
      have q' : noL d = true ∧ noLs ds = true := by simpa [noLs] using q
      rw [Rp.noL_nil h1 q'.1, RpAll.noL_nil h2 q'.2]; rfl
end
mutual
theorem Rp.trk : ∀ {d : D} {v : V} {as : List Addr}, Rp ca H v d as → ∀ a ∈ as, a ≠ ca ∧ ∃ xs, H a = some (.lst xs)
  | .none, _, _, h => by cases h; simp
  | .bool _, _, _, h => by cases h; simp
  | .int _, _, _, h => by cases h; simp
  | .str _, _, _, h => by cases h; simp
  | .list ds, _, _, h => by
    cases h with
    | lst e n ha =>
      intro b hb
      rcases List.mem_cons.mp hb with rfl | hb
      · exact ⟨n, _, e⟩
      · exact RpAll.trk ha b hb
  | .dict _, _, _, h => by cases h
  | .tuple ds, _, _, h => by
    cases h with
    | tup _ ha => exact RpAll.trk ha
theorem RpAll.trk : ∀ {ds : List D} {vs : List V} {as : List Addr}, RpAll ca H vs ds as → ∀ a ∈ as, a ≠ ca ∧ ∃ xs, H a = some (.lst xs)
  | [], _, _, h => by cases h; simp
  | d :: ds, _, _, h => by
    cases h with
    | cons h1 h2 =>
      intro b hb
      rcases List.mem_append.mp hb with hb | hb
      · exact Rp.trk h1 b hb
      · exact RpAll.trk h2 b hb
end
mutual
theorem Rp.mono (ht : ∀ a xs, H a = some (.tup xs) → H' a = some (.tup xs)) : ∀ {d : D} {v : V} {as : List Addr}, Rp ca H v d as → (∀ a ∈ as, H' a = H a) → Rp ca H' v d as
  | .none, _, _, h, _ => by cases h; exact .non
  | .bool _, _, _, h, _ => by cases h; exact .bl _
  | .int _, _, _, h, _ => by cases h; exact .int _
  | .str _, _, _, h, _ => by cases h; exact .str _
  | .list ds, _, _, h, q => by
    cases h with
    | lst e n ha => exact .lst ((q _ List.mem_cons_self).trans e) n (RpAll.mono ht ha fun a h => q a (List.mem_cons_of_mem _ h))
  | .dict _, _, _, h, _ => by cases h
  | .tuple ds, _, _, h, q => by
    cases h with
    | tup e ha => exact .tup (ht _ _ e) (RpAll.mono ht ha q)
theorem RpAll.mono (ht : ∀ a xs, H a = some (.tup xs) → H' a = some (.tup xs)) : ∀ {ds : List D} {vs : List V} {as : List Addr}, RpAll ca H vs ds as → (∀ a ∈ as, H' a = H a) → RpAll ca H' vs ds as
  | [], _, _, h, _ => by cases h; exact .nil
  | d :: ds, _, _, h, q => by
    cases h with
    | cons h1 h2 => exact .cons (Rp.mono ht h1 fun a h => q a (List.mem_append_left _ h)) (RpAll.mono ht h2 fun a h => q a (List.mem_append_right _ h))
end
mutual
theorem Rp.dp {K : PySem.W.Frag} : ∀ {d : D} {v : V} {as : List Addr}, Rp ca H v d as → Dp K H v d
  | .none, _, _, h => by cases h; exact .non
  | .bool _, _, _, h => by cases h; exact .bl _
  | .int _, _, _, h => by cases h; exact .int _
  | .str _, _, _, h => by cases h; exact .str _
  | .list ds, _, _, h => by
    cases h with
    | lst e n ha => exact .lst (SqL.of e) (RpAll.dp ha)
  | .dict _, _, _, h => by cases h
  | .tuple ds, _, _, h => by
    cases h with
    | tup e ha => exact .tup (SqT.of e) (RpAll.dp ha)
theorem RpAll.dp {K : PySem.W.Frag} : ∀ {ds : List D} {vs : List V} {as : List Addr}, RpAll ca H vs ds as → DpAll K H vs ds
  | [], _, _, h => by cases h; exact .nil
  | d :: ds, _, _, h => by
    cases h with
    | cons h1 h2 => exact .cons (Rp.dp h1) (RpAll.dp h2)
end
theorem RpAll.len : ∀ {ds : List D} {vs : List V} {as : List Addr}, RpAll ca H vs ds as → vs.length = ds.length
  | [], _, _, h => by cases h; rfl
  | d :: ds, _, _, h => by
    cases h with
    | cons h1 h2 => simp [RpAll.len h2]
theorem RpAll.get : ∀ {ds : List D} {vs : List V} {as : List Addr}, RpAll ca H vs ds as → ∀ {i : Nat} {d : D}, ds[i]? = some d → ∃ v bs, vs[i]? = some v ∧ Rp ca H v d bs ∧ ∀ a ∈ bs, a ∈ as
  | [], _, _, h, i, d, e => by simp at e
  | d :: ds, _, _, h, 0, d', e => by
    cases h with
    | cons h1 h2 =>
      simp at e; subst e
      exact ⟨_, _, by simp, h1, fun a h => List.mem_append_left _ h⟩
  | d :: ds, _, _, h, i + 1, d', e => by
    cases h with
    | cons h1 h2 =>
      obtain ⟨v, bs, e1, r, sub⟩ := RpAll.get h2 (i := i) (d := d') (by simpa using e)
      exact ⟨v, bs, by simpa using e1, r, fun a h => List.mem_append_right _ (sub a h)⟩
theorem RpAll.append : ∀ {ds es : List D} {vs ws : List V} {as bs : List Addr}, RpAll ca H vs ds as → RpAll ca H ws es bs → RpAll ca H (vs ++ ws) (ds ++ es) (as ++ bs)
  | [], _, _, _, _, _, h, k => by cases h; simpa using k
  | d :: ds, _, _, _, _, _, h, k => by
    cases h with
    | cons h1 h2 =>
      have := RpAll.append h2 k
      rw [List.cons_append, List.cons_append, List.append_assoc]
      exact .cons h1 this
theorem RpAll.take : ∀ {ds : List D} {vs : List V} {as : List Addr} (n : Nat), RpAll ca H vs ds as → ∃ bs, RpAll ca H (vs.take n) (ds.take n) bs ∧ ∀ a ∈ bs, a ∈ as
  | _, _, _, 0, _ => ⟨[], .nil, by simp⟩
  | [], _, _, n + 1, h => by cases h; exact ⟨[], .nil, by simp⟩
  | d :: ds, _, _, n + 1, h => by
    cases h with
    | cons h1 h2 =>
      obtain ⟨bs, r, sub⟩ := RpAll.take n h2
      refine ⟨_, .cons h1 r, fun a h => ?_⟩
      rcases List.mem_append.mp h with h | h
      · exact List.mem_append_left _ h
      · exact List.mem_append_right _ (sub a h)
theorem RpAll.drop : ∀ {ds : List D} {vs : List V} {as : List Addr} (n : Nat), RpAll ca H vs ds as → ∃ bs, RpAll ca H (vs.drop n) (ds.drop n) bs ∧ ∀ a ∈ bs, a ∈ as
  | _, _, as, 0, h => ⟨as, h, fun _ h => h⟩
  | [], _, _, n + 1, h => by cases h; exact ⟨[], .nil, by simp⟩
  | d :: ds, _, _, n + 1, h => by
    cases h with
    | cons h1 h2 =>
      obtain ⟨bs, r, sub⟩ := RpAll.drop n h2
      exact ⟨bs, r, fun a h => List.mem_append_right _ (sub a h)⟩
theorem RpAll.reverse : ∀ {ds : List D} {vs : List V} {as : List Addr}, RpAll ca H vs ds as → ∃ bs, RpAll ca H vs.reverse ds.reverse bs ∧ ∀ a ∈ bs, a ∈ as
  | [], _, _, h => by cases h; exact ⟨[], .nil, by simp⟩
  | d :: ds, _, _, h => by
    cases h with
    | cons h1 h2 =>
      obtain ⟨bs, r, sub⟩ := RpAll.reverse h2
      rw [List.reverse_cons, List.reverse_cons]
      refine ⟨_, r.append (.cons h1 .nil), fun a h => ?_⟩
      rcases List.mem_append.mp h with h | h
      · exact List.mem_append_right _ (sub a h)
      · exact List.mem_append_left _ (by simpa using h)
theorem RpAll.mem_of_noLs {ds : List D} {vs : List V} {as : List Addr} (h : RpAll ca H vs ds as) (q : noLs ds = true) : as = [] := h.noL_nil q
theorem RpAll.rep {ds : List D} {vs : List V} {as : List Addr} (h : RpAll ca H vs ds as) : ∀ k : Nat, ∃ bs, RpAll ca H (List.replicate k vs).flatten (List.replicate k ds).flatten bs ∧ ∀ a ∈ bs, a ∈ as
  | 0 => ⟨[], .nil, by simp⟩
  | k + 1 => by
    obtain ⟨bs, r, sub⟩ := RpAll.rep h k
    refine ⟨_, by simpa [List.replicate_succ] using h.append r, fun a hh => ?_⟩
    rcases List.mem_append.mp hh with hh | hh
    · exact hh
    · exact sub a hh
theorem RpAll.set : ∀ {ds : List D} {vs : List V} {as : List Addr}, RpAll ca H vs ds as → ∀ {j : Nat} {v : V} {d : D} {cs : List Addr}, Rp ca H v d cs → ∃ bs, RpAll ca H (vs.set j v) (ds.set j d) bs ∧ (∀ a ∈ bs, a ∈ as ∨ a ∈ cs) ∧ (as.Nodup → cs.Nodup → (∀ a ∈ as, a ∉ cs) → bs.Nodup)
  | [], _, _, h, _, _, _, _, _ => by cases h; exact ⟨[], .nil, by simp, by simp⟩
  | d :: ds, _, _, h, 0, v, d', cs, hv => by
    cases h with
    | @cons v₀ vs₀ _ _ as₀ bs₀ h1 h2 =>
      refine ⟨_, .cons hv h2, fun a hh => ?_, fun n1 n2 n3 => ?_⟩
      · rcases List.mem_append.mp hh with hh | hh
        · exact .inr hh
        · exact .inl (List.mem_append_right _ hh)
      · rw [List.nodup_append] at n1 ⊢
        exact ⟨n2, n1.2.1, fun a ha b hb e => n3 b (List.mem_append_right _ hb) (e ▸ ha)⟩
  | d :: ds, _, _, h, j + 1, v, d', cs, hv => by
    cases h with
    | @cons v₀ vs₀ _ _ as₀ bs₀ h1 h2 =>
      obtain ⟨bs, r, sub, nd⟩ := RpAll.set h2 (j := j) hv
      refine ⟨_, .cons h1 r, fun a hh => ?_, fun n1 n2 n3 => ?_⟩
      · rcases List.mem_append.mp hh with hh | hh
        · exact .inl (List.mem_append_left _ hh)
        · rcases sub a hh with z | z
          · exact .inl (List.mem_append_right _ z)
          · exact .inr z
      · rw [List.nodup_append] at n1 ⊢
        refine ⟨n1.1, nd n1.2.1 n2 (fun a ha => n3 a (List.mem_append_right _ ha)), fun a ha b hb e => ?_⟩
        rcases sub b hb with z | z
        · exact n1.2.2 a ha b z e
        · exact n3 a (List.mem_append_left _ ha) (e ▸ z)
theorem RpAll.ints : ∀ {ds : List D} {vs : List V} {as : List Addr} {ns : List Int}, RpAll ca H vs ds as → ints? ds = some ns → vs = ns.map V.int
  | [], _, _, _, h, e => by cases h; simp [ints?] at e; subst e; rfl
  | d :: ds, _, _, ns, h, e => by
    cases h with
    | cons h1 h2 =>
      cases d <;> simp only [ints?] at e <;> first | (cases e; done) | skip
      rename_i i
      cases q : ints? ds with
      | none => rw [q] at e; cases e
      | some ms =>
        rw [q] at e
        simp only [Option.map_some, Option.some.injEq] at e
        subst e
        cases h1
        rw [RpAll.ints h2 q]; rfl
theorem RpAll.bools : ∀ {ds : List D} {vs : List V} {as : List Addr} {ns : List Bool}, RpAll ca H vs ds as → bools? ds = some ns → vs = ns.map V.bl
  | [], _, _, _, h, e => by cases h; simp [bools?] at e; subst e; rfl
  | d :: ds, _, _, ns, h, e => by
    cases h with
    | cons h1 h2 =>
      cases d <;> simp only [bools?] at e <;> first | (cases e; done) | skip
      rename_i i
      cases q : bools? ds with
      | none => rw [q] at e; cases e
      | some ms =>
        rw [q] at e
        simp only [Option.map_some, Option.some.injEq] at e
        subst e
        cases h1
        rw [RpAll.bools h2 q]; rfl
end

/-! ### the source, growing heaps -/
def kCells : Key := .inr "cells"
def kLeft : Key := .inr "left"
def kMixed : Key := .inr "mixed"
def kTurn : Key := .inr "turn"
def SrcAt (sa ca : Addr) (s : Src) (H : Hp) : Prop :=
  H sa = some (.dK [(kCells, .ref ca), (kLeft, .int s.left), (kMixed, .int s.mixed), (kTurn, .int s.turn)]) ∧ H ca = some (.lst (s.cells.map V.int))
theorem SrcAt.ne {sa ca : Addr} {s : Src} {H : Hp} (h : SrcAt sa ca s H) : sa ≠ ca := ne_of h.1 h.2 (by intro z; cases z)
structure Grow (sa ca : Addr) (H H' : Hp) : Prop where
  keep : ∀ a o, a ≠ sa → a ≠ ca → H a = some o → H' a = some o
  dom : ∀ a, H' a = none → H a = none
  tup : ∀ a xs, H a = some (.tup xs) → H' a = some (.tup xs)
theorem Grow.refl {sa ca : Addr} {H : Hp} : Grow sa ca H H := ⟨fun _ _ _ _ h => h, fun _ h => h, fun _ _ h => h⟩
theorem Grow.trans {sa ca : Addr} {H H1 H2 : Hp} (a : Grow sa ca H H1) (b : Grow sa ca H1 H2) : Grow sa ca H H2 :=
  ⟨fun c o h1 h2 h => b.keep c o h1 h2 (a.keep c o h1 h2 h), fun c h => a.dom c (b.dom c h), fun c xs h => b.tup c xs (a.tup c xs h)⟩
theorem Grow.new {sa ca p : Addr} {H : Hp} {o : HO} (h : H p = none) : Grow sa ca H (upd H p o) :=
  ⟨fun a u _ _ e => by rw [upd_ne (ne_of_none e h)]; exact e, fun a e => by
    by_cases z : a = p
    · subst z; exact h
    · rw [upd_ne z] at e; exact e, fun a xs e => by rw [upd_ne (ne_of_none e h)]; exact e⟩
theorem SrcAt.new {sa ca p : Addr} {s : Src} {H : Hp} {o : HO} (x : SrcAt sa ca s H) (h : H p = none) : SrcAt sa ca s (upd H p o) :=
  ⟨by rw [upd_ne (ne_of_none x.1 h)]; exact x.1, by rw [upd_ne (ne_of_none x.2 h)]; exact x.2⟩
theorem Rp.grow {sa ca : Addr} {H H' : Hp} {s : Src} {v : V} {d : D} {as : List Addr} (r : Rp ca H v d as) (x : SrcAt sa ca s H) (g : Grow sa ca H H') : Rp ca H' v d as :=
  r.mono g.tup fun a ha => by
    obtain ⟨n, xs, e⟩ := r.trk a ha
    have ns : a ≠ sa := by rintro rfl; rw [x.1] at e; cases e
    rw [e]; exact g.keep a _ ns n e
theorem RpAll.grow {sa ca : Addr} {H H' : Hp} {s : Src} {v : List V} {d : List D} {as : List Addr} (r : RpAll ca H v d as) (x : SrcAt sa ca s H) (g : Grow sa ca H H') : RpAll ca H' v d as :=
  r.mono g.tup fun a ha => by
    obtain ⟨n, xs, e⟩ := r.trk a ha
    have ns : a ≠ sa := by rintro rfl; rw [x.1] at e; cases e
    rw [e]; exact g.keep a _ ns n e

/-- the slots bear the data -/
structure EnvAt (sx : Option Nat) (sa ca : Addr) (H : Hp) (env : Env) (σ : L2.St) (F : Nat → List Addr) : Prop where
  len : env.length = σ.length
  at_ : ∀ i d, env[i]? = some (some d) → ∃ v, σ[i]? = some (some v) ∧ Rp ca H v d (F i)
  sx : ∀ i, sx = some i → σ[i]? = some (some (.ref sa))
theorem EnvAt.grow {sx : Option Nat} {sa ca : Addr} {H H' : Hp} {env : Env} {σ : L2.St} {F : Nat → List Addr} {s : Src} (e : EnvAt sx sa ca H env σ F) (x : SrcAt sa ca s H) (g : Grow sa ca H H') : EnvAt sx sa ca H' env σ F :=
  ⟨e.len, fun i d h => let ⟨v, h1, r⟩ := e.at_ i d h; ⟨v, h1, r.grow x g⟩, e.sx⟩
def Al (env : Env) (F : Nat → List Addr) (a : Addr) : Prop := ∃ i d, env[i]? = some (some d) ∧ a ∈ F i

/-- what comes behind: a value d with its lists -/
structure Res (sa ca : Addr) (H : Hp) (env : Env) (F : Nat → List Addr) (d : D) (fr : Bool) (s' : Src) (v : V) (H' : Hp) (as : List Addr) : Prop where
  g : Grow sa ca H H'
  src : SrcAt sa ca s' H'
  rp : Rp ca H' v d as
  fr : fr = true → as.Nodup ∧ ∀ a ∈ as, H a = none
  al : ∀ a ∈ as, H a = none ∨ Al env F a
structure ResL (sa ca : Addr) (H : Hp) (env : Env) (F : Nat → List Addr) (ds : List D) (fr : Bool) (s' : Src) (vs : List V) (H' : Hp) (as : List Addr) : Prop where
  g : Grow sa ca H H'
  src : SrcAt sa ca s' H'
  rp : RpAll ca H' vs ds as
  fr : fr = true → as.Nodup ∧ ∀ a ∈ as, H a = none
  al : ∀ a ∈ as, H a = none ∨ Al env F a
def tE (sx : Option Nat) (m : Env → Src → Option (D × Bool × Src)) : TE := fun σ H Q => ∃ sa ca env s F d fr s', SrcAt sa ca s H ∧ EnvAt sx sa ca H env σ F ∧ m env s = some (d, fr, s') ∧
  ∀ v H' as, Res sa ca H env F d fr s' v H' as → Q v H'
def tEs (sx : Option Nat) (m : Env → Src → Option (List D × Bool × Src)) : TA := fun σ H Q => ∃ sa ca env s F d fr s', SrcAt sa ca s H ∧ EnvAt sx sa ca H env σ F ∧ m env s = some (d, fr, s') ∧
  ∀ v H' as, ResL sa ca H env F d fr s' v H' as → Q v H'
def tEO (sx : Option Nat) (m : Env → Src → Option (Option Int × Src)) (σ : L2.St) (H : Hp) (Q : Option Int → Hp → Prop) : Prop := ∃ sa ca env s F d s', SrcAt sa ca s H ∧ EnvAt sx sa ca H env σ F ∧ m env s = some (d, s') ∧
  ∀ H', Grow sa ca H H' → SrcAt sa ca s' H' → Q d H'
/-- as a test -/
def tT (sx : Option Nat) (m : Env → Src → Option (D × Bool × Src)) : TT := fun σ H Q => ∃ sa ca env s F b fr s', SrcAt sa ca s H ∧ EnvAt sx sa ca H env σ F ∧ m env s = some (.bool b, fr, s') ∧
  ∀ H', Grow sa ca H H' → SrcAt sa ca s' H' → Q b H'

theorem _root_.L2.PE.pvImp {X : Cx} {e : Expr} {t t' : TE} (h : PE X e t) (i : ∀ σ H Q, t' σ H Q → t σ H Q) : PE X e t' := ⟨fun pins s σ H Q I q => h.run pins s σ H Q I (i σ H Q q)⟩
theorem _root_.L2.PT.pvImp {X : Cx} {e : Expr} {t t' : TT} (h : PT X e t) (i : ∀ σ H Q, t' σ H Q → t σ H Q) : PT X e t' := ⟨fun pins s σ H Q I q => h.run pins s σ H Q I (i σ H Q q)⟩
theorem _root_.L2.PW.pvImp {X : Cx} {e : Expr} {t t' : TT} (h : PW X e t) (i : ∀ σ H Q, t' σ H Q → t σ H Q) : PW X e t' := ⟨fun w pins s σ H Q I q => h.run w pins s σ H Q I (i σ H Q q)⟩
theorem _root_.L2.PA.pvImp {X : Cx} {e : List Expr} {t t' : TA} (h : PA X e t) (i : ∀ σ H Q, t' σ H Q → t σ H Q) : PA X e t' := ⟨fun p pins s σ H Q I q => h.run p pins s σ H Q I (i σ H Q q)⟩
theorem _root_.L2.PI.pvImp {X : Cx} {tg e : Expr} {t t' : TI} (h : PI X tg e t) (i : ∀ σ H Q, t' σ H Q → t σ H Q) : PI X tg e t' := ⟨fun pins s σ H Q I q => h.run pins s σ H Q I (i σ H Q q)⟩
theorem _root_.L2.PS.pvImp {X : Cx} {e : Stmt} {t t' : TS} (h : PS X e t) (i : ∀ D σ H, t' D σ H → t D σ H) : PS X e t' := ⟨fun pins s σ H D I q => h.run pins s σ H D I (i D σ H q)⟩

theorem nd1 {p : Addr} : [p].Nodup := by simp
section
variable {sa ca : Addr} {H H1 H2 H3 : Hp} {env : Env} {F : Nat → List Addr} {d e : D} {s s1 s2 s3 : Src} {v w : V} {as bs cs : List Addr} {fr fr2 : Bool}
theorem Res.step {d' : D} (r1 : Res sa ca H env F d fr s1 v H1 as) (r2 : Res sa ca H1 env F d' fr2 s2 w H2 bs) : Res sa ca H env F d' fr2 s2 w H2 bs :=
  ⟨r1.g.trans r2.g, r2.src, r2.rp, fun h => ⟨(r2.fr h).1, fun a ha => r1.g.dom a ((r2.fr h).2 a ha)⟩, fun a ha => (r2.al a ha).imp_left (r1.g.dom a)⟩
theorem Res.keep (r1 : Res sa ca H env F d fr s1 v H1 as) (g : Grow sa ca H1 H2) (x : SrcAt sa ca s2 H2) : Res sa ca H env F d fr s2 v H2 as :=
  ⟨r1.g.trans g, x, r1.rp.grow r1.src g, r1.fr, r1.al⟩
/-- a value without lists -/
theorem Res.flat (g : Grow sa ca H H1) (x : SrcAt sa ca s1 H1) (r : Rp ca H1 v d []) : Res sa ca H env F d fr s1 v H1 [] :=
  ⟨g, x, r, fun _ => ⟨List.nodup_nil, fun _ h => nomatch h⟩, fun _ h => nomatch h⟩
end
end PV

/-! PV, part B2: operations that the layer lacks: tuple * k for any k; in for a tuple of data. -/
namespace PV
open PySem PySem.Spec PyProof.Rows L2
theorem tup_mulSame (l : Addr) (items : Array Value) (n : Nat) (dd : Option Addr) (sl : Array (Option Value)) (x : Int) (u : Tok) (c0 : (decide (x < -(2 ^ 63)) || decide (x ≥ 2 ^ 63)) = false) (c1 : (items.isEmpty || x == 1) = true) :
    Meets (Builtin.«tuple.__mul__» ⟨[.ref l, .int x u], []⟩) (fun _ R s => s.heap.get? l = some { cls := .type "tuple", dict := dd, data := .seq items n, slots := sl } ∧ R (.ok (.ret (Value.ref l))) s) :=
  .of_wp fun prog w A R s h => by
    obtain ⟨hp, g, d, tk, os⟩ := s
    obtain ⟨hl, h⟩ := h
    have f1 := AutoSeq1.idx_int
    wp_walk using wpAny_loadPart' hl
    repeat (first
      | (refine wpAny_ite_false (decide_eq_false (by rw [c0]; exact Bool.false_ne_true)) ?_; wp_walk using wpAny_loadPart' hl)
      | (refine wpAny_ite_true (decide_eq_true c1) ?_; wp_walk using wpAny_loadPart' hl))
    exact ⟨_, rfl, h⟩
theorem tup_mulNone (l : Addr) (items : Array Value) (n : Nat) (dd : Option Addr) (sl : Array (Option Value)) (x : Int) (u : Tok) (c0 : (decide (x < -(2 ^ 63)) || decide (x ≥ 2 ^ 63)) = false) (c1 : (items.isEmpty || x == 1) = false) (c2 : (decide (x ≤ 0) || items.isEmpty) = true) :
    Meets (Builtin.«tuple.__mul__» ⟨[.ref l, .int x u], []⟩) (fun _ R s => s.heap.get? l = some { cls := .type "tuple", dict := dd, data := .seq items n, slots := sl } ∧
      R (.ok (.ret (Value.ref s.heap.objs.size))) { s with heap := s.heap.push { cls := Value.type "tuple", data := Data.seq #[] }, toks := s.toks }) :=
  .of_wp fun prog w A R s h => by
    obtain ⟨hp, g, d, tk, os⟩ := s
    obtain ⟨hl, h⟩ := h
    have f1 := AutoSeq1.idx_int
    wp_walk using wpAny_loadPart' hl
    repeat (first
      | (refine wpAny_ite_false (decide_eq_false (by rw [c0]; exact Bool.false_ne_true)) ?_; wp_walk using wpAny_loadPart' hl)
      | (refine wpAny_ite_false (decide_eq_false (by rw [c1]; exact Bool.false_ne_true)) ?_; wp_walk using wpAny_loadPart' hl)
      | (refine wpAny_ite_true (decide_eq_true c2) ?_; wp_walk using wpAny_loadPart' hl))
    exact ⟨_, rfl, h⟩
section
variable {X : Cx}
def rMulT (K : PySem.W.Frag) : R2 := fun x y H Q => (∃ l k xs, x = .ref l ∧ y = .int k ∧ SqT K H l xs ∧ -1000 ≤ k ∧ k ≤ 1000 ∧ ((xs = [] ∨ k = 1) ∧ Q (.ref l) H ∨ (xs ≠ [] ∧ k ≤ 0 ∧ ∀ p, H p = none → Q (.ref p) (upd H p (.tup []))))) ∨ rRepT K x y H Q
theorem op_mulT : OpR X (binaryOp .Mult) (rMulT X.K) := by
  intro pins s σ H x y v u Q I rx ry h
  rcases h with ⟨l, k, xs, rfl, rfl, hT, k0, k1, h⟩ | h
  · cases rx
    obtain ⟨t, rfl⟩ := ry
    obtain ⟨its, r, ⟨⟨cls, dd, data, sl⟩, ho, hc, n, hd⟩, hs⟩ := I.tuple hT
    simp only at hc hd
    subst hc hd
    have hle : its.length = xs.length := r.length.symm
    have hem : its.toArray.isEmpty = xs.isEmpty := by
      cases its <;> cases xs <;> first | rfl | (simp at hle; done)
    have c0 : (decide (k < -(2 ^ 63)) || decide (k ≥ 2 ^ 63)) = false := by rw [decide_eq_false (by omega), decide_eq_false (by omega)] <;> rfl
    rcases h with ⟨h, q⟩ | ⟨hne, hk, q⟩
    · have c1 : (its.toArray.isEmpty || k == 1) = true := by
        rw [hem]
        rcases h with rfl | rfl
        · rfl
        · simp
      exact wpAny_binaryOp_repeat_ref (T := "tuple") (U := "int") (by decide) ⟨_, ho, rfl⟩ (fun s' => typeIs_int s' k t) noFill_tuple_mul F.fills_int_mul F.slot_int_rmul repeat_tuple F.slot_int_index.lookup
        (call_meets F.slot_int_rmul (typeIs_int s k t) F.entry_int_rmul (F.args_int_rmul_2 _ _) (int_rmul_tuple k t l its.toArray n dd sl)
          ⟨ho, rfl, ⟨_, ho, rfl⟩, call_meets F.slot_tuple_mul ⟨_, ho, rfl⟩ F.entry_tuple_mul (F.args_tuple_mul_2 _ _) (tup_mulSame l its.toArray n dd sl k t c0 c1) ⟨ho, ⟨.ref l, H, I, rfl, q⟩⟩⟩)
    · have c1 : (its.toArray.isEmpty || k == 1) = false := by
        rw [hem]
        cases xs with
        | nil => exact absurd rfl hne
        | cons a b => simp; omega
      have c2 : (decide (k ≤ 0) || its.toArray.isEmpty) = true := by rw [decide_eq_true hk]; rfl
      refine wpAny_binaryOp_repeat_ref (T := "tuple") (U := "int") (by decide) ⟨_, ho, rfl⟩ (fun s' => typeIs_int s' k t) noFill_tuple_mul F.fills_int_mul F.slot_int_rmul repeat_tuple F.slot_int_index.lookup
        (call_meets F.slot_int_rmul (typeIs_int s k t) F.entry_int_rmul (F.args_int_rmul_2 _ _) (int_rmul_tuple k t l its.toArray n dd sl)
          ⟨ho, rfl, ⟨_, ho, rfl⟩, call_meets F.slot_tuple_mul ⟨_, ho, rfl⟩ F.entry_tuple_mul (F.args_tuple_mul_2 _ _) (tup_mulNone l its.toArray n dd sl k t c0 c1 c2) ⟨ho, ?_⟩⟩)
      refine ⟨.ref s.heap.objs.size, _, I.laid (t' := s.toks) (o := .tup []) (fun b ob q => Heap.get?_push_of_some _ q) (Nat.le_refl _) ?_, rfl, q _ (I.hok.fresh (Nat.le_refl _))⟩
      exact ⟨by simp, [], .nil, IsTup.new _ _⟩
  · exact op_repT pins s σ H x y v u Q I rx ry h
def rInA (K : PySem.W.Frag) : R2 := fun x y H Q => rInD K x y H Q ∨ ∃ d ds, Dp K H x d ∧ Dp K H y (.tuple ds) ∧ SeqAt.shaped d = true ∧ SeqAt.shaped (.tuple ds) = true ∧ Q (.bl (ds.any fun z => PyData.eqv z d)) H
def rNotInA (K : PySem.W.Frag) : R2 := fun x y H Q => rNotInD K x y H Q ∨ ∃ d ds, Dp K H x d ∧ Dp K H y (.tuple ds) ∧ SeqAt.shaped d = true ∧ SeqAt.shaped (.tuple ds) = true ∧ Q (.bl (!ds.any fun z => PyData.eqv z d)) H
theorem op_inA (hu : X.A.units + 65 < cLine) : OpR X (compareOp .In) (rInA X.K) := by
  intro pins s σ H x y v u Q I rx ry h
  rcases h with h | ⟨d, ds, hd, he, sd, se, q⟩
  · exact op_inD hu pins s σ H x y v u Q I rx ry h
  · obtain ⟨as, r1⟩ := Dp.reads I d x v hd rx
    obtain ⟨bs, r2⟩ := Dp.reads I (.tuple ds) y u he ry
    exact SeqAt.in_tuple_reads r2 r1 (SeqAt.canLay_of_shaped se) (SeqAt.canLay_of_shaped sd) (room_in_shaped sd hu) ⟨.bl _, H, I, rfl, q⟩
theorem op_notInA (hu : X.A.units + 65 < cLine) : OpR X (compareOp .NotIn) (rNotInA X.K) := by
  intro pins s σ H x y v u Q I rx ry h
  rcases h with h | ⟨d, ds, hd, he, sd, se, q⟩
  · exact op_notInD hu pins s σ H x y v u Q I rx ry h
  · obtain ⟨as, r1⟩ := Dp.reads I d x v hd rx
    obtain ⟨bs, r2⟩ := Dp.reads I (.tuple ds) y u he ry
    exact SeqAt.notIn_tuple_reads r2 r1 (SeqAt.canLay_of_shaped se) (SeqAt.canLay_of_shaped sd) (room_in_shaped sd hu) ⟨.bl _, H, I, rfl, q⟩
end
end PV

/-! PV, part B3: sorted, of ints or of tuples of ints. -/
namespace PV
open PySem PySem.Spec PyProof.Rows L2
theorem isI_of {d : D} (h : isI d = true) : ∃ i, d = .int i := by
  cases d <;> first | (cases h; done) | exact ⟨_, rfl⟩
theorem allI_of : ∀ {xs : List D}, xs.all isI = true → ∃ ns : List Int, xs = ns.map .int
  | [], _ => ⟨[], rfl⟩
  | x :: r, h => by
    simp only [List.all_cons, Bool.and_eq_true] at h
    obtain ⟨i, rfl⟩ := isI_of h.1
    obtain ⟨ns, rfl⟩ := allI_of h.2
    exact ⟨i :: ns, rfl⟩
theorem isIT_of {d : D} (h : isIT d = true) : ∃ (i : Int) (ns : List Int), d = .tuple ((i :: ns).map .int) := by
  cases d with
  | tuple xs =>
    cases xs with
    | nil => cases h
    | cons x r =>
      simp only [isIT, Bool.and_eq_true] at h
      obtain ⟨i, rfl⟩ := isI_of h.1
      obtain ⟨ns, rfl⟩ := allI_of h.2
      exact ⟨i, ns, rfl⟩
  | _ => cases h
theorem srt_alike {xs : List D} (h : srtOk xs = true) : PySem.W.AllAlike xs := by
  unfold srtOk at h
  simp only [Bool.or_eq_true, List.all_eq_true] at h
  intro d hd d' hd'
  rcases h with h | h
  · obtain ⟨i, rfl⟩ := isI_of (h d hd)
    obtain ⟨j, rfl⟩ := isI_of (h d' hd')
    simp [PySem.W.alike]
  · obtain ⟨i, ns, rfl⟩ := isIT_of (h d hd)
    obtain ⟨j, ms, rfl⟩ := isIT_of (h d' hd')
    have := PySem.W.alike_ints (i :: ns) (j :: ms)
    simpa [PySem.W.alike] using this
theorem srt_sortable {xs : List D} (h : srtOk xs = true) : PySem.W.Sortable xs := by
  unfold srtOk at h
  simp only [Bool.or_eq_true, List.all_eq_true] at h
  rcases h with h | h
  · refine .inr fun d hd => ?_
    obtain ⟨i, rfl⟩ := isI_of (h d hd)
    exact ⟨(fun z => nomatch z), (fun _ z => nomatch z)⟩
  · refine .inl fun d hd => ?_
    obtain ⟨i, ns, rfl⟩ := isIT_of (h d hd)
    exact ⟨_, _, rfl⟩
theorem srt_depth {xs : List D} (h : srtOk xs = true) : ∀ d ∈ xs, d.depth ≤ 1 := by
  unfold srtOk at h
  simp only [Bool.or_eq_true, List.all_eq_true] at h
  intro d hd
  rcases h with h | h
  · obtain ⟨i, rfl⟩ := isI_of (h d hd)
    simp [PyData.depth]
  · obtain ⟨i, ns, rfl⟩ := isIT_of (h d hd)
    simp only [PyData.depth]
    rw [PySem.W.depth_ints]
    omega
theorem srt_noLs {xs : List D} (h : srtOk xs = true) : noLs xs = true := by
  have key : ∀ ns : List Int, noLs (ns.map .int) = true := fun ns => by
    induction ns with
    | nil => rfl
    | cons i ns ih => simp [noLs, noL, ih]
  have all : ∀ ys : List D, (∀ d ∈ ys, noL d = true) → noLs ys = true := fun ys => by
    induction ys with
    | nil => intro _; rfl
    | cons y ys ih =>
      intro k
      simp only [noLs, Bool.and_eq_true]
      exact ⟨k y List.mem_cons_self, ih fun d hd => k d (List.mem_cons_of_mem _ hd)⟩
  unfold srtOk at h
  simp only [Bool.or_eq_true, List.all_eq_true] at h
  refine all _ fun d hd => ?_
  rcases h with h | h
  · obtain ⟨i, rfl⟩ := isI_of (h d hd)
    rfl
  · obtain ⟨i, ns, rfl⟩ := isIT_of (h d hd)
    simp only [noL]
    exact key _
theorem srtD_ok {xs : List D} (h : srtOk xs = true) : srtOk (srtD xs) = true := by
  unfold srtOk at h ⊢
  have p : (srtD xs).Perm xs := List.mergeSort_perm _ _
  simp only [Bool.or_eq_true, List.all_eq_true] at h ⊢
  rcases h with h | h
  · exact .inl fun d hd => h d (p.mem_iff.mp hd)
  · exact .inr fun d hd => h d (p.mem_iff.mp hd)

/-! ### the call -/
def rSortD (K : PySem.W.Frag) : List V → Hp → VK → Prop := fun vs H Q => ∃ ca a xs ds, vs = [V.ref a] ∧ SqL K H a xs ∧ RpAll ca H xs ds [] ∧ srtOk ds = true ∧ ∀ ys p, RpAll ca H ys (srtD ds) [] → H p = none → Q (.ref p) (upd H p (.lst ys))
theorem each_rp {ca : Addr} {H : Hp} : ∀ {ds : List D} {xs : List V} {us : List Value}, RpAll ca H xs ds [] → noLs ds = true → Vals xs us → PySem.W.EachIs (fun v d => ∃ x, RelV x v ∧ Rp ca H x d []) us ds
  | [], _, _, h, _, r => by
    cases h; cases r
    exact .nil
  | d :: ds, _, _, h, hn, r => by
    simp only [noLs, Bool.and_eq_true] at hn
    generalize ha : ([] : List Addr) = as0 at h
    cases h with
    | @cons v vs _ _ as bs h1 h2 =>
      have ea : as = [] := h1.noL_nil hn.1
      have eb : bs = [] := h2.noL_nil hn.2
      subst ea eb
      cases r with
      | cons r1 r2 => exact .cons ⟨v, r1, h1⟩ (each_rp h2 hn.2 r2)
theorem rp_each {ca : Addr} {H : Hp} : ∀ {ds : List D} {us : List Value}, PySem.W.EachIs (fun v d => ∃ x, RelV x v ∧ Rp ca H x d []) us ds → ∃ xs, Vals xs us ∧ RpAll ca H xs ds []
  | _, _, .nil => ⟨[], .nil, .nil⟩
  | _, _, .cons ⟨x, r, p⟩ t => by
    obtain ⟨xs, r2, p2⟩ := rp_each t
    exact ⟨x :: xs, .cons r r2, .cons (as := []) (bs := []) p p2⟩
theorem call_sortD {X : Cx} (hu : X.A.units + 200 < cLine) : CallR X (.builtin "sorted") (rSortD X.K) := by
  intro pins s σ H vs us Q I r h
  obtain ⟨ca, a, xs, ds, rfl, hs, rp, ok, q⟩ := h
  obtain ⟨its, rv, hl, hz⟩ := I.list hs
  rw [Vals.ref1 r]
  have hn := srt_noLs ok
  have e := each_rp rp hn rv
  have lx : its.length = ds.length := e.length
  have lv := rv.length
  have er : PySem.W.EachIs (fun v b => ∃ as, Reads s.heap v (id b) as) its ds := by
    obtain ⟨as, rd⟩ := Dp.readsAll I ds _ its rp.dp rv
    exact PySem.W.readsAll_each id (by simpa using rd)
  refine PySem.W.sorted_data (enc := id) hl.isList e er (by simpa using srt_alike ok) (by simpa using srt_sortable ok) (by omega) (fun b hb => ?_) fun out ho eo => ?_
  · have := srt_depth ok b hb
    simp only [id]
    omega
  · obtain ⟨ys, vy, py⟩ := rp_each eo
    obtain ⟨ep, he'⟩ := PyProof.Rows.sortedAll_at s.heap its out.toArray
    have ly := vy.length
    exact ⟨.ref _, upd H (s.heap.objs.size + 1) (.lst ys), I.laid (t' := s.toks) (fun _ _ => PyProof.Rows.sortedAll_old) (Nat.le_succ _) ⟨by omega, out, ep, vy, by simpa using he'⟩, rfl, q ys _ py (I.hok.fresh (Nat.le_succ _))⟩
end PV

/-! PV, part C: the rules by values. -/
namespace PV
open PySem PySem.Spec PyProof.Rows L2

/-- a value that an operation hands on -/
def OutV (sa ca : Addr) (H : Hp) (d : D) (fr : Bool) (base : List Addr) (Q : VK) : Prop := ∀ v H' cs, Grow sa ca H H' → (∀ s, SrcAt sa ca s H → SrcAt sa ca s H') → Rp ca H' v d cs →
  (fr = true → cs.Nodup ∧ ∀ a ∈ cs, H a = none) → (∀ a ∈ cs, H a = none ∨ a ∈ base) → Q v H'
section
variable {sa ca : Addr} {H : Hp} {d : D} {ds : List D} {fr : Bool} {base as : List Addr} {Q : VK} {v p : Addr} {xs : List V} {s : Src}
theorem OutV.flat {v : V} (o : OutV sa ca H d fr base Q) (r : Rp ca H v d []) : Q v H := o v H [] .refl (fun _ x => x) r (fun _ => ⟨List.nodup_nil, fun _ h => nomatch h⟩) (fun _ h => nomatch h)
theorem OutV.same {v : V} (o : OutV sa ca H d false base Q) (r : Rp ca H v d as) (h : ∀ a ∈ as, a ∈ base) : Q v H := o v H as .refl (fun _ x => x) r (fun z => nomatch z) (fun a z => .inr (h a z))
theorem OutV.tup (o : OutV sa ca H (.tuple ds) false base Q) (r : RpAll ca H xs ds as) (h : ∀ a ∈ as, a ∈ base) (hs : SrcAt sa ca s H) (hp : H p = none) : Q (.ref p) (upd H p (.tup xs)) :=
  o _ _ as (.new hp) (fun s x => x.new hp) (.tup upd_same (r.grow hs (.new hp))) (fun z => nomatch z) (fun a z => .inr (h a z))
theorem OutV.lst (o : OutV sa ca H (.list ds) fr base Q) (hf : fr = true → noLs ds = true) (r : RpAll ca H xs ds as) (h : ∀ a ∈ as, a ∈ base) (hs : SrcAt sa ca s H) (hp : H p = none) : Q (.ref p) (upd H p (.lst xs)) := by
  refine o _ _ (p :: as) (.new hp) (fun s x => x.new hp) (.lst upd_same (fun e => ?_) (r.grow hs (.new hp))) (fun z => ?_) (fun a z => ?_)
  · subst e; rw [hs.2] at hp; cases hp
  · rw [r.noL_nil (hf z)]
    exact ⟨nd1, fun a h => by rw [List.mem_singleton.mp h]; exact hp⟩
  · rcases List.mem_cons.mp z with rfl | z
    · exact .inl hp
    · exact .inr (h a z)
end

/-! ### binary operators -/
def opA : Op2 → Operator
  | .add => .Add | .sub => .Sub | .mul => .Mult | .fdiv => .FloorDiv | .mod => .Mod | .pow => .Pow | .shl => .LShift
def ValOp (ca sa : Addr) (r : R2) (f : D → D → Option D) : Prop := ∀ (s : Src) (H : Hp) (x y : V) (dx dy d : D) (as bs : List Addr) (Q : VK), SrcAt sa ca s H → Rp ca H x dx as → Rp ca H y dy bs → f dx dy = some d → OutV sa ca H d (frN d) (as ++ bs) Q → r x y H Q

section
variable {X : Cx}
theorem mulOk_ok {i j : Int} (h : mulOk i j = true) : CMul i j ∨ CMulW i j := by
  unfold mulOk at h
  simp only [Bool.or_eq_true, Bool.and_eq_true, decide_eq_true_eq] at h
  rcases h with (h | h) | ⟨h1, h2⟩
  · exact .inl (.inl (by constructor <;> omega))
  · exact .inl (.inr (by constructor <;> omega))
  · unfold bigM at h1 h2
    exact .inr (wide_mul h1 h2 (by decide) (by decide) (by decide))
theorem divOk_ok {j : Int} (i : Int) (h : divOk j = true) : CDivW i j := by
  unfold divOk bigD at h
  simp only [Bool.and_eq_true, decide_eq_true_eq] at h
  exact wide_div h.1 h.2 (by decide) (by decide)
theorem powOk_ok {i j : Int} (h : powOk i j = true) : CPow i j := by
  unfold powOk at h
  simp only [Bool.and_eq_true, decide_eq_true_eq] at h
  exact ⟨h.1.1, h.1.2, h.2⟩
theorem RpAll.nil_of {ca : Addr} {H : Hp} {xs : List V} {as : List Addr} (h : RpAll ca H xs [] as) : xs = [] ∧ as = [] := by cases h; exact ⟨rfl, rfl⟩
theorem RpAll.ne_nil {ca : Addr} {H : Hp} {xs : List V} {ds : List D} {as : List Addr} (h : RpAll ca H xs ds as) : xs = [] ↔ ds = [] := by
  have := h.len
  constructor <;> intro e <;> subst e
  · exact List.eq_nil_of_length_eq_zero (by simpa using this.symm)
  · exact List.eq_nil_of_length_eq_zero (by simpa using this)
theorem op2_ok (X : Cx) (o : Op2) : ∃ r : R2, OpR X (binaryOp (opA o)) r ∧ ∀ sa ca, ValOp ca sa r (op2 o) := by
  cases o with
  | add =>
    refine ⟨_, (op_add.or (op_catA.or op_cat)), fun sa ca s H x y dx dy d as bs Q hs rx ry e q => ?_⟩
    cases dx <;> cases dy <;> simp only [op2] at e <;> first | (cases e; done) | skip
    · cases e; cases rx; cases ry
      exact .inl ⟨_, _, rfl, rfl, q.flat (.int _)⟩
    · rename_i ds es
      split at e
      · rename_i hz
        cases e
        cases rx with
        | @lst l xs _ as' e1 n1 h1 =>
          cases ry with
          | @lst b zs _ bs' e2 n2 h2 =>
            have hz' : xs.length + zs.length ≤ sizeLine := by rw [h1.len, h2.len]; exact of_decide_eq_true hz
            refine .inr (.inr ⟨l, b, xs, zs, rfl, rfl, e1, e2, hz', fun p hp => ?_⟩)
            refine q.lst (as := as' ++ bs') (fun z => z) (h1.append h2) (fun a ha => ?_) hs hp
            rcases List.mem_append.mp ha with ha | ha
            · exact List.mem_append_left _ (List.mem_cons_of_mem _ ha)
            · exact List.mem_append_right _ (List.mem_cons_of_mem _ ha)
      · cases e
    · rename_i ds es
      split at e
      · rename_i hz
        cases e
        cases rx with
        | @tup l xs _ as' e1 h1 =>
          cases ry with
          | @tup b zs _ bs' e2 h2 =>
            have hz' : xs.length + zs.length ≤ sizeLine := by rw [h1.len, h2.len]; exact of_decide_eq_true hz
            refine .inr (.inl ⟨l, b, xs, zs, rfl, rfl, .of e1, .of e2, hz', fun ex => ?_, fun _ ey => ?_, fun _ _ p hp => ?_⟩)
            · subst ex
              have := h1.ne_nil.mp rfl
              subst this
              exact q.same (as := bs) (.tup e2 h2) (fun a ha => List.mem_append_right _ ha)
            · subst ey
              have := h2.ne_nil.mp rfl
              subst this
              rw [List.append_nil] at q
              exact q.same (as := as) (.tup e1 h1) (fun a ha => List.mem_append_left _ ha)
            · exact q.tup (as := as ++ bs) (h1.append h2) (fun a ha => ha) hs hp
      · cases e
  | sub =>
    refine ⟨_, op_sub, fun sa ca s H x y dx dy d as bs Q hs rx ry e q => ?_⟩
    cases dx <;> cases dy <;> simp only [op2] at e <;> first | (cases e; done) | skip
    cases e; cases rx; cases ry
    exact ⟨_, _, rfl, rfl, q.flat (.int _)⟩
  | mul =>
    refine ⟨_, (op_mul.or (op_mulW.or (op_rep.or op_mulT))), fun sa ca s H x y dx dy d as bs Q hs rx ry e q => ?_⟩
    cases dx <;> cases dy <;> simp only [op2] at e <;> first | (cases e; done) | skip
    · split at e
      · rename_i hz
        cases e; cases rx; cases ry
        rcases mulOk_ok hz with h | h
        · exact .inl ⟨_, _, rfl, rfl, h, q.flat (.int _)⟩
        · exact .inr (.inl ⟨_, _, rfl, rfl, h, q.flat (.int _)⟩)
      · cases e
    · split at e
      · rename_i ds k hz
        simp only [Bool.and_eq_true, decide_eq_true_eq] at hz
        cases e; cases ry
        cases rx with
        | @lst l xs _ as' e1 n1 h1 =>
          obtain ⟨cs, r, sub⟩ := h1.rep k.toNat
          have hz' : xs.length * k.toNat ≤ sizeLine := by rw [h1.len]; exact of_decide_eq_true hz.2
          exact .inr (.inr (.inl ⟨l, k, xs, rfl, rfl, e1, hz.1.1, hz.1.2, hz', fun p hp =>
            q.lst (fun z => z) r (fun a ha => List.mem_append_left _ (List.mem_cons_of_mem _ (sub a ha))) hs hp⟩))
      · cases e
    · split at e
      · rename_i ds k hz
        simp only [Bool.and_eq_true, decide_eq_true_eq] at hz
        cases e; cases ry
        cases rx with
        | @tup l xs _ as' e1 h1 =>
          have hl := h1.len
          by_cases h0 : xs = [] ∨ k = 1
          · refine .inr (.inr (.inr (.inl ⟨l, k, xs, rfl, rfl, .of e1, hz.1.1, hz.1.2, .inl ⟨h0, ?_⟩⟩)))
            have er : rep ds k = ds := by
              rcases h0 with h0 | h0
              · have := h1.ne_nil.mp h0
                subst this
                unfold rep
                rw [List.flatten_replicate_nil]
              · subst h0
                simp [rep]
            rw [er] at q
            exact q.same (as := as) (.tup e1 h1) (fun a ha => List.mem_append_left _ ha)
          · have hne : xs ≠ [] := fun z => h0 (.inl z)
            by_cases hk : k ≤ 0
            · refine .inr (.inr (.inr (.inl ⟨l, k, xs, rfl, rfl, .of e1, hz.1.1, hz.1.2, .inr ⟨hne, hk, fun p hp => ?_⟩⟩)))
              have er : rep ds k = [] := by
                unfold rep
                rw [show k.toNat = 0 by omega]
                rfl
              rw [er] at q
              exact q.tup (as := []) .nil (fun a ha => nomatch ha) hs hp
            · obtain ⟨cs, r, sub⟩ := h1.rep k.toNat
              have hk1 : k ≠ 1 := fun z => h0 (.inr z)
              exact .inr (.inr (.inr (.inr ⟨l, k, xs, rfl, rfl, .of e1, hne, by omega, hz.1.2, by omega, fun p hp => q.tup r (fun a ha => List.mem_append_left _ (sub a ha)) hs hp⟩)))
      · cases e
  | fdiv =>
    refine ⟨_, op_fdivW, fun sa ca s H x y dx dy d as bs Q hs rx ry e q => ?_⟩
    cases dx <;> cases dy <;> simp only [op2] at e <;> first | (cases e; done) | skip
    split at e
    · rename_i hz
      cases e; cases rx; cases ry
      exact ⟨_, _, rfl, rfl, divOk_ok _ hz, q.flat (.int _)⟩
    · cases e
  | mod =>
    refine ⟨_, op_mod, fun sa ca s H x y dx dy d as bs Q hs rx ry e q => ?_⟩
    cases dx <;> cases dy <;> simp only [op2] at e <;> first | (cases e; done) | skip
    split at e
    · rename_i hz
      cases e; cases rx; cases ry
      exact ⟨_, _, rfl, rfl, of_decide_eq_true hz, q.flat (.int _)⟩
    · cases e
  | pow =>
    refine ⟨_, op_pow, fun sa ca s H x y dx dy d as bs Q hs rx ry e q => ?_⟩
    cases dx <;> cases dy <;> simp only [op2] at e <;> first | (cases e; done) | skip
    split at e
    · rename_i hz
      cases e; cases rx; cases ry
      exact ⟨_, _, rfl, rfl, powOk_ok hz, q.flat (.int _)⟩
    · cases e
  | shl =>
    refine ⟨_, op_shl, fun sa ca s H x y dx dy d as bs Q hs rx ry e q => ?_⟩
    cases dx <;> cases dy <;> simp only [op2] at e <;> first | (cases e; done) | skip
    split at e
    · rename_i hz
      cases e; cases rx; cases ry
      exact ⟨_, _, rfl, rfl, powOk_ok hz, q.flat (.int _)⟩
    · cases e

/-! ### comparisons -/
def cmA : Cm → CmpOp
  | .eq => .Eq | .ne => .NotEq | .lt => .Lt | .le => .LtE | .gt => .Gt | .ge => .GtE | .inn => .In | .nin => .NotIn
def ValCm (ca sa : Addr) (r : R2) (f : D → D → Option Bool) : Prop := ∀ (H : Hp) (x y : V) (dx dy : D) (b : Bool) (as bs : List Addr) (Q : VK), Rp ca H x dx as → Rp ca H y dy bs → f dx dy = some b → Q (.bl b) H → r x y H Q
theorem cm2_ok (X : Cx) (hu : X.A.units + 200 < cLine) (o : Cm) : ∃ r : R2, OpR X (compareOp (cmA o)) r ∧ ∀ sa ca, ValCm ca sa r (cm2 o) := by
  cases o with
  | lt =>
    refine ⟨_, op_lt, fun sa ca H x y dx dy d as bs Q rx ry e q => ?_⟩
    cases dx <;> cases dy <;> simp only [cm2] at e <;> first | (cases e; done) | skip
    cases e; cases rx; cases ry
    exact ⟨_, _, rfl, rfl, q⟩
  | le =>
    refine ⟨_, op_le, fun sa ca H x y dx dy d as bs Q rx ry e q => ?_⟩
    cases dx <;> cases dy <;> simp only [cm2] at e <;> first | (cases e; done) | skip
    cases e; cases rx; cases ry
    exact ⟨_, _, rfl, rfl, q⟩
  | gt =>
    refine ⟨_, op_gt, fun sa ca H x y dx dy d as bs Q rx ry e q => ?_⟩
    cases dx <;> cases dy <;> simp only [cm2] at e <;> first | (cases e; done) | skip
    cases e; cases rx; cases ry
    exact ⟨_, _, rfl, rfl, q⟩
  | ge =>
    refine ⟨_, op_ge, fun sa ca H x y dx dy d as bs Q rx ry e q => ?_⟩
    cases dx <;> cases dy <;> simp only [cm2] at e <;> first | (cases e; done) | skip
    cases e; cases rx; cases ry
    exact ⟨_, _, rfl, rfl, q⟩
  | eq =>
    refine ⟨_, op_eqD (by omega), fun sa ca H x y dx dy d as bs Q rx ry e q => ?_⟩
    simp only [cm2] at e
    split at e
    · rename_i h
      simp only [Bool.and_eq_true] at h
      cases e
      exact ⟨dx, dy, rx.dp, ry.dp, h.1, h.2, q⟩
    · cases e
  | ne =>
    refine ⟨_, op_neD (by omega), fun sa ca H x y dx dy d as bs Q rx ry e q => ?_⟩
    simp only [cm2] at e
    split at e
    · rename_i h
      simp only [Bool.and_eq_true] at h
      cases e
      exact ⟨dx, dy, rx.dp, ry.dp, h.1, h.2, q⟩
    · cases e
  | inn =>
    refine ⟨_, op_inA (by omega), fun sa ca H x y dx dy d as bs Q rx ry e q => ?_⟩
    cases dy <;> simp only [cm2] at e <;> first | (cases e; done) | skip
    · split at e
      · rename_i h
        simp only [Bool.and_eq_true] at h
        cases e
        exact .inl ⟨dx, _, rx.dp, ry.dp, h.1, h.2, q⟩
      · cases e
    · split at e
      · rename_i h
        simp only [Bool.and_eq_true] at h
        cases e
        exact .inr ⟨dx, _, rx.dp, ry.dp, h.1, h.2, q⟩
      · cases e
  | nin =>
    refine ⟨_, op_notInA (by omega), fun sa ca H x y dx dy d as bs Q rx ry e q => ?_⟩
    cases dy <;> simp only [cm2] at e <;> first | (cases e; done) | skip
    · split at e
      · rename_i h
        simp only [Bool.and_eq_true] at h
        cases e
        exact .inl ⟨dx, _, rx.dp, ry.dp, h.1, h.2, q⟩
      · cases e
    · split at e
      · rename_i h
        simp only [Bool.and_eq_true] at h
        cases e
        exact .inr ⟨dx, _, rx.dp, ry.dp, h.1, h.2, q⟩
      · cases e

/-! ### built-in functions -/
def rRepr (K : PySem.W.Frag) : List V → Hp → VK → Prop := fun xs H Q => ∃ x d, xs = [x] ∧ Dp K H x d ∧ reprOk d = true ∧ Q (.str d.shown) H
theorem call_reprD (hu : X.A.units + 200 < cLine) (hg : X.A.guards = some []) : CallR X (.builtin "repr") (rRepr X.K) := by
  intro pins s σ H xs us Q I r h
  obtain ⟨x, d, rfl, hd, ok, q⟩ := h
  obtain ⟨u, rfl, ru⟩ := vals1 r
  unfold reprOk fitsLine at ok
  simp only [Bool.and_eq_true, decide_eq_true_eq, Bool.not_eq_true'] at ok
  obtain ⟨⟨⟨o1, o2⟩, o3⟩, o4⟩ := ok
  obtain ⟨as, rd⟩ := Dp.reads I d x u hd ru
  have fin : ∀ (h' : Heap) (t : Tok) (tk : Nat), (∀ b o, s.heap.get? b = some o → h'.get? b = some o) → EP X pins σ Q (.str d.shown t) { s with heap := h', toks := tk } :=
    fun h' t tk k => ⟨.str d.shown, H, I.kept k, ⟨t, rfl⟩, q⟩
  have far : ∀ a, u = Value.ref a → wpAny (model X.prog X.w) X.A (call (.builtin "repr") [u]) (EP X pins σ Q) X.xe s := fun a e => by
    subst e
    exact repr_of_reads' rd o1 (PyData.noDict_hsm o2) hg (by omega) (fun _ _ z => z) (fun h' t tk k => fin h' t tk k) o4
  cases d with
  | none =>
    cases hd; cases ru
    refine PySem.P.repr_of_none ⟨.str _, H, I.tok _, ⟨_, rfl⟩, ?_⟩
    simpa [PyData.shown] using q
  | bool b =>
    cases hd; cases ru
    refine PySem.P.repr_of_bool ⟨.str _, H, I.tok _, ⟨_, rfl⟩, ?_⟩
    cases b <;> simpa [PyData.shown] using q
  | int i =>
    cases hd; obtain ⟨t, rfl⟩ := ru
    refine PySem.P.repr_of_int (by simpa [PyData.showable] using o1) ⟨.str _, H, I.tok _, ⟨_, rfl⟩, ?_⟩
    simpa [PyData.shown] using q
  | str z =>
    cases hd; obtain ⟨t, rfl⟩ := ru
    refine PySem.P.repr_of_str ⟨.str _, H, I.tok _, ⟨_, rfl⟩, ?_⟩ (by simpa [PyData.shown] using o4)
    simpa [PyData.shown] using q
  | list ds =>
    cases hd with
    | lst _ _ => exact far _ ru
  | tuple ds =>
    cases hd with
    | tup _ _ => exact far _ ru
  | dict kvs => cases hd

def biV : Bi → Value
  | .len => .builtin "len" | .tuple => .type "tuple" | .list => .type "list" | .int => .type "int" | .abs => .builtin "abs" | .repr => .builtin "repr" | .max => .builtin "max" | .min => .builtin "min"
  | .sum => .builtin "sum" | .all => .builtin "all" | .sorted => .builtin "sorted"
def biN : Bi → Str
  | .len => "len" | .tuple => "tuple" | .list => "list" | .int => "int" | .abs => "abs" | .repr => "repr" | .max => "max" | .min => "min" | .sum => "sum" | .all => "all" | .sorted => "sorted"
def ValBi (ca sa : Addr) (r : List V → Hp → VK → Prop) (b : Bi) : Prop := ∀ (s : Src) (H : Hp) (xs : List V) (ds : List D) (d : D) (as : List Addr) (Q : VK), SrcAt sa ca s H → RpAll ca H xs ds as → bi1 b ds = some d → OutV sa ca H d (biFr b d) as Q → r xs H Q

theorem RpAll.one {ca : Addr} {H : Hp} {xs : List V} {d : D} {as : List Addr} (h : RpAll ca H xs [d] as) : ∃ x, xs = [x] ∧ Rp ca H x d as := by
  cases h with
  | cons h1 h2 =>
    cases h2
    exact ⟨_, rfl, by simpa using h1⟩
theorem RpAll.two {ca : Addr} {H : Hp} {xs : List V} {d e : D} {as : List Addr} (h : RpAll ca H xs [d, e] as) : ∃ x y bs cs, xs = [x, y] ∧ Rp ca H x d bs ∧ Rp ca H y e cs ∧ as = bs ++ cs := by
  cases h with
  | cons h1 h2 =>
    obtain ⟨y, rfl, h3⟩ := h2.one
    exact ⟨_, _, _, _, rfl, h1, h3, rfl⟩
theorem bi_never (X : Cx) (v : Value) : CallR X v (fun _ _ _ => False) := fun _ _ _ _ _ _ _ _ _ h => h.elim
theorem bi1_one {b : Bi} {ds : List D} {d : D} (h : bi1 b ds = some d) : (∃ x, ds = [x]) ∨ ∃ x y, ds = [x, y] := by
  match ds, h with
  | [x], _ => exact .inl ⟨x, rfl⟩
  | [x, y], _ => exact .inr ⟨x, y, rfl⟩
  | [], h => cases b <;> simp [bi1] at h
  | _ :: _ :: _ :: _, h => cases b <;> simp [bi1] at h
theorem bi1_ok (X : Cx) (hc : X.calm = true) (hu : X.A.units + 200 < cLine) (hg : X.A.guards = some []) (b : Bi) : ∃ r, CallR X (biV b) r ∧ ∀ sa ca, ValBi ca sa r b := by
  cases b with
  | len =>
    refine ⟨_, call_len_seq, fun sa ca s H xs ds d as Q hs r e q => ?_⟩
    rcases bi1_one e with ⟨x, rfl⟩ | ⟨x, y, rfl⟩
    · obtain ⟨v, rfl, rx⟩ := r.one
      cases x <;> simp only [bi1] at e <;> first | (cases e; done) | skip
      · cases e
        cases rx with
        | lst e1 _ h1 => exact ⟨_, _, rfl, .inl (.of e1), by rw [h1.len]; exact q.flat (.int _)⟩
      · cases e
        cases rx with
        | tup e1 h1 => exact ⟨_, _, rfl, .inr (.of e1), by rw [h1.len]; exact q.flat (.int _)⟩
    · simp [bi1] at e
  | tuple =>
    refine ⟨_, call_tuple_of, fun sa ca s H xs ds d as Q hs r e q => ?_⟩
    rcases bi1_one e with ⟨x, rfl⟩ | ⟨x, y, rfl⟩
    · obtain ⟨v, rfl, rx⟩ := r.one
      cases x <;> simp only [bi1] at e <;> first | (cases e; done) | skip
      · cases e
        cases rx with
        | lst e1 _ h1 => exact ⟨_, _, rfl, .inl ⟨.of e1, fun p hp => q.tup h1 (fun a h => List.mem_cons_of_mem _ h) hs hp⟩⟩
      · cases e
        cases rx with
        | tup e1 h1 => exact ⟨_, _, rfl, .inr ⟨.of e1, q.same (.tup e1 h1) fun a h => h⟩⟩
    · simp [bi1] at e
  | list =>
    refine ⟨_, call_list_of, fun sa ca s H xs ds d as Q hs r e q => ?_⟩
    rcases bi1_one e with ⟨x, rfl⟩ | ⟨x, y, rfl⟩
    · obtain ⟨v, rfl, rx⟩ := r.one
      cases x <;> simp only [bi1] at e <;> first | (cases e; done) | skip
      · cases e
        cases rx with
        | lst e1 _ h1 => exact ⟨_, _, rfl, .inl (.of e1), fun p hp => q.lst (fun z => z) h1 (fun a h => List.mem_cons_of_mem _ h) hs hp⟩
      · cases e
        cases rx with
        | tup e1 h1 => exact ⟨_, _, rfl, .inr (.of e1), fun p hp => q.lst (fun z => z) h1 (fun a h => h) hs hp⟩
    · simp [bi1] at e
  | int =>
    refine ⟨_, call_int1, fun sa ca s H xs ds d as Q hs r e q => ?_⟩
    rcases bi1_one e with ⟨x, rfl⟩ | ⟨x, y, rfl⟩
    · obtain ⟨v, rfl, rx⟩ := r.one
      cases x <;> simp only [bi1] at e <;> first | (cases e; done) | skip
      · cases e; cases rx
        exact .inr ⟨_, rfl, q.flat (.int _)⟩
      · cases e; cases rx
        exact .inl ⟨_, rfl, q.flat (.int _)⟩
    · simp [bi1] at e
  | abs =>
    refine ⟨_, call_abs, fun sa ca s H xs ds d as Q hs r e q => ?_⟩
    rcases bi1_one e with ⟨x, rfl⟩ | ⟨x, y, rfl⟩
    · obtain ⟨v, rfl, rx⟩ := r.one
      cases x <;> simp only [bi1] at e <;> first | (cases e; done) | skip
      cases e; cases rx
      exact ⟨_, rfl, q.flat (.int _)⟩
    · simp [bi1] at e
  | max =>
    refine ⟨_, call_max2 hc, fun sa ca s H xs ds d as Q hs r e q => ?_⟩
    rcases bi1_one e with ⟨x, rfl⟩ | ⟨x, y, rfl⟩
    · simp [bi1] at e
    · obtain ⟨v, w, bs, cs, rfl, rx, ry, rfl⟩ := r.two
      cases x <;> cases y <;> simp only [bi1] at e <;> first | (cases e; done) | skip
      cases e; cases rx; cases ry
      exact ⟨_, _, rfl, q.flat (.int _)⟩
  | min =>
    refine ⟨_, call_min2 hc, fun sa ca s H xs ds d as Q hs r e q => ?_⟩
    rcases bi1_one e with ⟨x, rfl⟩ | ⟨x, y, rfl⟩
    · simp [bi1] at e
    · obtain ⟨v, w, bs, cs, rfl, rx, ry, rfl⟩ := r.two
      cases x <;> cases y <;> simp only [bi1] at e <;> first | (cases e; done) | skip
      cases e; cases rx; cases ry
      exact ⟨_, _, rfl, q.flat (.int _)⟩
  | sum =>
    refine ⟨_, cr_sum hc, fun sa ca s H xs ds d as Q hs r e q => ?_⟩
    rcases bi1_one e with ⟨x, rfl⟩ | ⟨x, y, rfl⟩
    · obtain ⟨v, rfl, rx⟩ := r.one
      cases x <;> simp only [bi1] at e <;> first | (cases e; done) | skip
      rename_i ys
      cases h : ints? ys with
      | none => rw [h] at e; cases e
      | some ns =>
        rw [h] at e; cases e
        cases rx with
        | lst e1 _ h1 => rw [h1.ints h] at e1; exact ⟨_, ns, rfl, .of e1, q.flat (.int _)⟩
    · simp [bi1] at e
  | all =>
    refine ⟨_, cr_all hc, fun sa ca s H xs ds d as Q hs r e q => ?_⟩
    rcases bi1_one e with ⟨x, rfl⟩ | ⟨x, y, rfl⟩
    · obtain ⟨v, rfl, rx⟩ := r.one
      cases x <;> simp only [bi1] at e <;> first | (cases e; done) | skip
      rename_i ys
      cases h : bools? ys with
      | none => rw [h] at e; cases e
      | some ns =>
        rw [h] at e; cases e
        cases rx with
        | lst e1 _ h1 => rw [h1.bools h] at e1; exact ⟨_, ns, rfl, .of e1, q.flat (.bl _)⟩
    · simp [bi1] at e
  | repr =>
    refine ⟨_, call_reprD hu hg, fun sa ca s H xs ds d as Q hs r e q => ?_⟩
    rcases bi1_one e with ⟨x, rfl⟩ | ⟨x, y, rfl⟩
    · obtain ⟨v, rfl, rx⟩ := r.one
      simp only [bi1] at e
      split at e
      · rename_i ok
        cases e
        exact ⟨_, x, rfl, rx.dp, ok, q.flat (.str _)⟩
      · cases e
    · simp [bi1] at e
  | sorted =>
    refine ⟨_, call_sortD hu, fun sa ca s H xs ds d as Q hs r e q => ?_⟩
    rcases bi1_one e with ⟨x, rfl⟩ | ⟨x, y, rfl⟩
    · obtain ⟨v, rfl, rx⟩ := r.one
      cases x <;> simp only [bi1] at e <;> first | (cases e; done) | skip
      rename_i ys
      split at e
      · rename_i ok
        obtain ⟨ok, _⟩ := (Bool.and_eq_true _ _).mp ok
        cases e
        cases rx with
        | lst e1 _ h1 =>
          have ea := h1.noL_nil (srt_noLs ok)
          subst ea
          exact ⟨ca, _, _, _, rfl, .of e1, h1, ok, fun zs p rz hp => q.lst (fun _ => srt_noLs (srtD_ok ok)) rz (fun _ h => nomatch h) hs hp⟩
      · cases e
    · simp [bi1] at e
end
end PV

/-! PV, part D: the check of an expression against the tree, and that it holds. -/
namespace PV
open PySem PySem.Spec PyProof.Rows L2

/-- a def of the module: its name, its parameters, whether the first of them is the source -/
structure FI where
  name : Str
  ps : List Str
  hs : Bool

/-! ### the check -/
def isVis (sc : Scope) (x : Str) : Bool := match sc.names.lookup x with | some .local | some .cell | some .free => true | _ => false
def isGl (sc : Scope) (x : Str) : Bool := match sc.names.lookup x with | some .globalImplicit => true | _ => false
def okName (x : Str) : Bool := !(x == ("__debug__" : Str)) && !(x == ("__classdict__" : Str)) && !(x == ("__name__" : Str))
def starE : Expr → Bool
  | .Starred .. => true
  | _ => false
def tyN : Ty → String
  | .int => "int" | .bool => "bool" | .str => "str" | .tuple => "tuple" | .list => "list" | .dict => "dict"
def tyS : Ty → Str
  | .int => "int" | .bool => "bool" | .str => "str" | .tuple => "tuple" | .list => "list" | .dict => "dict"
def bnames : List Str := ["len", "tuple", "list", "int", "abs", "repr", "max", "min", "sum", "all", "sorted", "isinstance", "bool", "str", "dict", "range", "enumerate", "zip"]

section
variable (T : List FI) (N : List Str) (sx : Option Nat)
/-- the name that stands in slot i -/
def atN (i : Nat) (x : Str) : Bool := match N[i]? with | some y => y == x | none => false
mutual
def chkT (asn : Str → Bool) : CT → Expr → Bool
  | .name i, .Name x _ => atN N i x && asn x
  | .tup ts, .Tuple es _ _ => chkTs asn ts es
  | _, _ => false
def chkTs (asn : Str → Bool) : CTs → List Expr → Bool
  | .nil, [] => true
  | .cons t r, e :: es => chkT asn t e && chkTs asn r es
  | _, _ => false
end
def srcArg (sc : Scope) : Expr → Bool
  | .Name x _ => match sx with
    | some i => atN N i x && isVis sc x && okName x
    | none => false
  | _ => false
def kF : SF → Str
  | .left => "left" | .mixed => "mixed" | .turn => "turn"
def seqN : Bool → Str
  | true => "tuple" | false => "list"
def ownLoc (scope : Scope) (own : List (Str × Nat)) : Bool := own.all fun p => match scope.names.lookup p.1 with | some .local | some .cell => true | _ => false
def ownSx (own : List (Str × Nat)) : Bool := match sx with
  | some i => own.all fun p => !(p.2 == i)
  | none => true
mutual
def chk : CE → Scope → Expr → Bool
  | .var i, sc, .Name x _ => atN N i x && isVis sc x && okName x
  | .none, _, .Constant .none _ _ => true
  | .tru, _, .Constant (.bool true) _ _ => true
  | .fls, _, .Constant (.bool false) _ _ => true
  | .int i, _, .Constant (.int j) _ _ => i == j
  | .str x, _, .Constant (.str y) _ _ => x == y
  | .op o a b, sc, .BinOp l p r _ => decide (opA o = p) && chk a sc l && chk b sc r
  | .neg a, sc, .UnaryOp .USub x _ => chk a sc x
  | .cmp o a b, sc, .Compare l [p] [r] _ => decide (cmA o = p) && !(behindInMarks p r) && chk a sc l && chk b sc r
  | .chain o o2 a b c, sc, .Compare l [p, p2] [r, z] _ => decide (cmA o = p) && decide (cmA o2 = p2) && !(lastMarks [p, p2] [r, z]) && chk a sc l && chk b sc r && chk c sc z
  | .isN a, sc, .Compare l [.Is] [.Constant .none _ _] _ => chk a sc l
  | .notN a, sc, .Compare l [.IsNot] [.Constant .none _ _] _ => chk a sc l
  | .isT a, sc, .Compare l [.Is] [.Constant (.bool true) _ _] _ => chk a sc l
  | .notT a, sc, .Compare l [.IsNot] [.Constant (.bool true) _ _] _ => chk a sc l
  | .and a b, sc, .BoolOp .And [x, y] _ => chk a sc x && chk b sc y
  | .and a b, sc, .BoolOp .And (x :: y :: z :: r) pos => chk a sc x && chk b sc (.BoolOp .And (y :: z :: r) pos)
  | .or a b, sc, .BoolOp .Or [x, y] _ => chk a sc x && chk b sc y
  | .or a b, sc, .BoolOp .Or (x :: y :: z :: r) pos => chk a sc x && chk b sc (.BoolOp .Or (y :: z :: r) pos)
  | .not a, sc, .UnaryOp .Not x _ => chk a sc x
  | .ite c a b, sc, .IfExp t x y _ => chk c sc t && chk a sc x && chk b sc y
  | .tup es, sc, .Tuple xs _ _ => chks es sc xs
  | .lst es, sc, .List xs _ => chks es sc xs
  | .ix a i, sc, .Subscript x (.Name n p) _ => chk a sc x && chk i sc (.Name n p)
  | .ix a i, sc, .Subscript x (.Constant c k p) _ => chk a sc x && chk i sc (.Constant c k p)
  | .ix a i, sc, .Subscript x (.BinOp l o r p) _ => chk a sc x && chk i sc (.BinOp l o r p)
  | .ix a i, sc, .Subscript x (.UnaryOp o l p) _ => chk a sc x && chk i sc (.UnaryOp o l p)
  | .ix a i, sc, .Subscript x (.Call f as ks p) _ => chk a sc x && chk i sc (.Call f as ks p)
  | .ix a i, sc, .Subscript x (.Subscript l r p) _ => chk a sc x && chk i sc (.Subscript l r p)
  | .sl a lo hi, sc, .Subscript x (.Slice l h none _) _ => chk a sc x && chkO lo sc l && chkO hi sc h
  | .rev a, sc, .Subscript x (.Slice none none (some (.UnaryOp .USub (.Constant (.int 1) _ _) _)) _) _ => chk a sc x
  | .bi b e es, sc, .Call (.Name g _) (x :: xs) [] _ => (biN b == g) && isGl sc g && chk e sc x && chks es sc xs && !starE x && !xs.any starE
  | .isi t a, sc, .Call (.Name g _) [x, .Name ty _] [] _ => (g == ("isinstance" : Str)) && isGl sc g && (ty == tyS t) && isGl sc ty && chk a sc x && !starE x
  | .call f es, sc, .Call (.Name g _) (x :: xs) [] _ => match T[f]? with
    | some fi => (fi.name == g) && isGl sc g && okName g && !starE x && !xs.any starE && (match fi.hs with
        | true => srcArg N sx sc x && chks es sc xs
        | false => chks es sc (x :: xs))
    | none => false
  | .lc own tg it c e, sc, .ListComp elt [⟨t, i, ifs, 0⟩] scope _ => blkC N sc scope own && ownLoc scope own && ownSx sx own && chkT N (fun x => (own.map (·.1)).contains x) tg t && chkI it sc t i && chkC c (relS scope sc) ifs && chk e (relS scope sc) elt
  | .sInt f, sc, .Subscript (.Name n p) (.Constant (.str key) _ _) _ => (key == kF f) && srcArg N sx sc (.Name n p)
  | .sCnt, sc, .Call (.Name g _) [.Subscript (.Name n p) (.Constant (.str key) _ _) _] [] _ => (g == ("len" : Str)) && isGl sc g && (key == ("cells" : Str)) && srcArg N sx sc (.Name n p)
  | .rl1 t a, sc, .Call (.Name g _) [.Call (.Name g2 _) [x] [] _] [] _ => (g == seqN t) && isGl sc g && (g2 == ("range" : Str)) && isGl sc g2 && chk a sc x && !starE x
  | .rl2 t a b, sc, .Call (.Name g _) [.Call (.Name g2 _) [x, y] [] _] [] _ => (g == seqN t) && isGl sc g && (g2 == ("range" : Str)) && isGl sc g2 && chk a sc x && chk b sc y && !starE x && !starE y
  | .idx i b, sc, .Call (.Attribute (.Name n _) m ap) [x] [] cp => atN N i n && isVis sc n && okName n && (m == ("index" : Str)) && (ap.endLine == cp.line) && !starE x && chk b sc x
  | _, _, _ => false
def chkO : CO → Scope → Option Expr → Bool
  | .no, _, none => true
  | .so a, sc, some e => chk a sc e
  | _, _, _ => false
def chkC : CO → Scope → List Expr → Bool
  | .no, _, [] => true
  | .so a, sc, [e] => chk a sc e
  | _, _, _ => false
def chks : CEs → Scope → List Expr → Bool
  | .nil, _, [] => true
  | .cons a r, sc, e :: es => chk a sc e && chks r sc es
  | .star a r, sc, .Starred e _ :: es => chk a sc e && chks r sc es
  | _, _, _ => false
def chkI : CI → Scope → Expr → Expr → Bool
  | .val a, sc, _, .Name x p => chk a sc (.Name x p)
  | .val a, sc, _, .Call f xs ks p => chk a sc (.Call f xs ks p)
  | .val a, sc, _, .Subscript l r p => chk a sc (.Subscript l r p)
  | .val a, sc, _, .Tuple es k p => chk a sc (.Tuple es k p)
  | .val a, sc, _, .List es p => chk a sc (.List es p)
  | .val a, sc, _, .BinOp l o r p => chk a sc (.BinOp l o r p)
  | .val a, sc, _, .ListComp l o r p => chk a sc (.ListComp l o r p)
  | .rg1 a, sc, _, .Call (.Name g _) [x] [] _ => (g == ("range" : Str)) && isGl sc g && chk a sc x && !starE x
  | .rg2 a b, sc, _, .Call (.Name g _) [x, y] [] _ => (g == ("range" : Str)) && isGl sc g && chk a sc x && chk b sc y && !starE x && !starE y
  | .enum a, sc, .Tuple _ _ _, .Call (.Name g _) [x] [] _ => (g == ("enumerate" : Str)) && isGl sc g && chk a sc x && !starE x
  | .zip a b, sc, .Tuple _ _ _, .Call (.Name g _) [x, y] [] _ => (g == ("zip" : Str)) && isGl sc g && chk a sc x && chk b sc y && !starE x && !starE y
  | .zips a b, sc, .Tuple _ _ _, .Call (.Name g _) [x, y] [⟨some kw, .Constant (.bool true) _ _, _⟩] _ => (g == ("zip" : Str)) && isGl sc g && (kw == ("strict" : Str)) && chk a sc x && chk b sc y && !starE x && !starE y
  | _, _, _, _ => false
end
end
end PV

/-! PV, part E: a checked expression is read as it runs (all but calls of defs and comprehensions). -/
namespace PV
open PySem PySem.Spec PyProof.Rows L2

/-- what a def of the module promises, by the table cf -/
def spOf (cf : CallF) (fi : FI) (i : Nat) : Sp := fun vs H Q _ => ∃ sa ca xs as s d s' ws, SrcAt sa ca s H ∧ vs = (if fi.hs then [V.ref sa] else []) ++ ws ∧ RpAll ca H ws xs as ∧ vs.length = fi.ps.length ∧ cf i xs s = some (d, s') ∧
  ∀ v H' bs, Grow sa ca H H' → SrcAt sa ca s' H' → Rp ca H' v d bs → (∀ a ∈ bs, H a = none ∨ a ∈ as) → Q v H'
/-- a def keeps its promise, where no repr is under way -/
structure FnG (P : Program) (w : World) (K : PySem.W.Frag) (mg : Str → Option Value) (base : Heap) (k : Nat) (f : Addr) (fd : FuncData) (ps : List Str) (sp : Sp) : Prop where
  len : ∀ vs H Q, sp vs H Q E0 → vs.length = ps.length
  run : ∀ (A : Around) (outer : List PySem.Env) (s : Shared) (H : Hp) (args : Args) (us : List Value) (vs : List V) (Q : VK), A.guards = some [] → Room k A → Env0 P w K mg base A outer s H →
    BindsTo s fd args (ps.zip us) → Vals vs us → sp vs H Q E0 → codeAny (model P w) A (.call (.ref f) args) (CR CX0 outer P w H s Q E0) s

structure XOk (T : List FI) (N : List Str) (cf : CallF) (k : Nat) (X : Cx) (sc : Scope) : Prop where
  nm : X.N = N
  nd : N.Nodup
  calm : X.calm = true
  xe : X.xe = fun _ _ => False
  scp : X.env.scope = sc
  kind : sc.kind = .function
  room : Room k X.A
  hu : X.A.units + 200 < cLine
  guards : X.A.guards = some []
  gl : ∀ b ∈ bnames, X.mg b = none
  call : ∀ i fi, T[i]? = some fi → ∃ f fd, X.mg fi.name = some (.ref f) ∧ PySem.W.keepIn X.K (.ref f) = true ∧ Binds X.K fd fi.ps [] ∧ FnG X.prog X.w X.K X.mg X.base k f fd fi.ps (spOf cf fi i)
theorem XOk.blk {T : List FI} {N : List Str} {cf : CallF} {k : Nat} {X : Cx} {sc scope : Scope} (x : XOk T N cf k X sc) (hk : scope.kind = .function) (s : Shared) (H : Hp) (C : Addr) (cl : List (Str × Addr)) (fp : List Addr) :
    XOk T N cf k (X.blk s H scope (compEnvC scope cl C X.env) fp) (relS scope sc) :=
  ⟨x.nm, x.nd, x.calm, rfl, by show relabel scope X.env = relS scope sc; rw [← x.scp]; rfl, hk, x.room, x.hu, x.guards, x.gl, x.call⟩

section
variable {T : List FI} {N : List Str} {sx : Option Nat} {cf : CallF} {k : Nat} {X : Cx} {sc : Scope}

theorem atN_ok {i : Nat} {x : Str} (h : atN N i x = true) : N[i]? = some x := by
  unfold atN at h
  split at h
  · rename_i y e
    rw [e, (beq_iff_eq.mp h)]
  · cases h
theorem isVis_ok {x : Str} (h : isVis sc x = true) : Vis sc x := by
  unfold isVis at h
  unfold Vis
  split at h <;> simp_all
theorem isGl_ok {x : Str} (h : isGl sc x = true) : sc.names.lookup x = some .globalImplicit := by
  unfold isGl at h
  split at h <;> simp_all
theorem okName_ok {x : Str} (h : okName x = true) : (x == ("__debug__" : Str)) = false ∧ (x == ("__classdict__" : Str)) = false ∧ (x == ("__name__" : Str)) = false := by
  unfold okName at h
  simp only [Bool.and_eq_true, Bool.not_eq_true'] at h
  exact ⟨h.1.1, h.1.2, h.2⟩
theorem frC_noL {d : D} (h : frC d = true) : noL d = true := by cases d <;> simp_all [frC, noL]
theorem fr_nil {ca : Addr} {H H0 : Hp} {v : V} {d : D} {as : List Addr} (r : Rp ca H v d as) (h : noL d = true) : as.Nodup ∧ ∀ a ∈ as, H0 a = none := by
  rw [r.noL_nil h]
  exact ⟨List.nodup_nil, fun _ h => nomatch h⟩
theorem fr_or {ca : Addr} {H H0 : Hp} {v : V} {d : D} {as : List Addr} {fr : Bool} (r : Rp ca H v d as) (h : fr = true → as.Nodup ∧ ∀ a ∈ as, H0 a = none) (q : (fr || noL d) = true) : as.Nodup ∧ ∀ a ∈ as, H0 a = none := by
  rcases Bool.or_eq_true _ _ |>.mp q with z | z
  · exact h z
  · exact fr_nil r z
theorem starEach_cons {e : Expr} {es : List Expr} {env : PySem.Env} (h : starE e = false) : starEach (e :: es) env = (false, eval e env) :: starEach es env := by
  cases e <;> first | rfl | cases h
theorem noStar {pos : Pos} {env : PySem.Env} : ∀ {es : List Expr}, es.any starE = false → (backTo pos (starEach es env)).any (·.1) = false
  | [], _ => rfl
  | e :: es, h => by
    simp only [List.any_cons, Bool.or_eq_false_iff] at h
    rw [starEach_cons h.1]
    have := noStar (pos := pos) (env := env) h.2
    unfold backTo at this ⊢
    simp only [List.map_cons, List.any_cons, this, Bool.or_false]

/-- the reading of an expression, as a value, as a test, as an and-or -/
structure GE (sx : Option Nat) (X : Cx) (e : Expr) (m : Env → Src → Option (D × Bool × Src)) : Prop where
  pe : PE X e (tE sx m)
  pt : PT X e (tT sx m)
  pw : ∀ op l pos, e = .BoolOp op l pos → PW X e (tT sx m)
theorem pt_def {e : Expr} {m : Env → Src → Option (D × Bool × Src)} (h : PE X e (tE sx m)) (he : ∀ whole, isTrue e X.env whole = (do let v ← whole; standAt e.pos; holding [v] (truthy v)) := by intro _; rfl) : PT X e (tT sx m) :=
  (pt_val h he).pvImp fun σ H Q ⟨sa, ca, env, s, F, b, fr, s', hs, he, hm, q⟩ => ⟨sa, ca, env, s, F, .bool b, fr, s', hs, he, hm, fun v H' as r => by
    cases r.rp
    exact ⟨b, rfl, q H' r.g r.src⟩⟩
theorem ge_def {e : Expr} {m : Env → Src → Option (D × Bool × Src)} (h : PE X e (tE sx m)) (he : ∀ whole, isTrue e X.env whole = (do let v ← whole; standAt e.pos; holding [v] (truthy v))) (hb : ∀ op l pos, e ≠ .BoolOp op l pos) : GE sx X e m :=
  ⟨h, pt_def h he, fun op l pos z => absurd z (hb op l pos)⟩

section
variable {sa ca : Addr} {H H1 H2 : Hp} {env : Env} {F : Nat → List Addr} {x y z : D} {fx fy fr : Bool} {s1 s2 : Src} {vx vy : V} {as bs : List Addr} {Q : VK}
theorem out1 (r1 : Res sa ca H env F x fx s1 vx H1 as) (q : ∀ v H' cs, Res sa ca H env F z fr s1 v H' cs → Q v H') : OutV sa ca H1 z fr as Q := fun v H' cs g gs rp hf ha =>
  q v H' cs ⟨r1.g.trans g, gs _ r1.src, rp, fun h => ⟨(hf h).1, fun a h' => r1.g.dom a ((hf h).2 a h')⟩, fun a h' => (ha a h').elim (fun n => .inl (r1.g.dom a n)) (r1.al a)⟩
theorem out2 (r1 : Res sa ca H env F x fx s1 vx H1 as) (r2 : Res sa ca H1 env F y fy s2 vy H2 bs) (q : ∀ v H' cs, Res sa ca H env F z fr s2 v H' cs → Q v H') : OutV sa ca H2 z fr (as ++ bs) Q := fun v H' cs g gs rp hf ha =>
  q v H' cs ⟨r1.g.trans (r2.g.trans g), gs _ r2.src, rp, fun h => ⟨(hf h).1, fun a h' => r1.g.dom a (r2.g.dom a ((hf h).2 a h'))⟩, fun a h' => by
    rcases ha a h' with n | n
    · exact .inl (r1.g.dom a (r2.g.dom a n))
    · rcases List.mem_append.mp n with n | n
      · exact r1.al a n
      · exact (r2.al a n).imp_left (r1.g.dom a)⟩
end

/-! ### names and constants -/
theorem g_var {i : Nat} {x : Str} {pos : Pos} (x0 : XOk T N cf k X sc) (h1 : atN N i x = true) (h2 : isVis sc x = true) (h3 : okName x = true) : GE sx X (.Name x pos) (run cf (.var i)) := by
  refine ge_def ?_ (fun _ => rfl) (fun _ _ _ z => nomatch z)
  refine (pe_var (i := i) (by rw [x0.nm]; exact atN_ok h1) (by rw [x0.scp]; exact isVis_ok h2) (okName_ok h3).1 (okName_ok h3).2.1).pvImp fun σ H Q ⟨sa, ca, env, s, F, d, fr, s', hs, he, hm, q⟩ => ?_
  simp only [run] at hm
  split at hm
  · rename_i d' e
    cases hm
    obtain ⟨v, ev, r⟩ := he.at_ i d e
    exact ⟨v, ev, q v H (F i) ⟨.refl, hs, r, fun z => fr_nil r (frC_noL z), fun a ha => .inr ⟨i, d, e, ha⟩⟩⟩
  · cases hm
theorem pe_const {e : Expr} {v : V} {d : D} {c : CE} (h : PE X e (tC v)) (hc : ∀ env s, run cf c env s = some (d, true, s)) (hr : ∀ ca H, Rp ca H v d []) : PE X e (tE sx (run cf c)) :=
  h.pvImp fun σ H Q ⟨sa, ca, env, s, F, d', fr, s', hs, he, hm, q⟩ => by
    rw [hc] at hm
    cases hm
    exact q v H [] (.flat .refl hs (hr ca H))

/-! ### operators -/
theorem g_op {o : Op2} {a b : CE} {l r : Expr} {p : Operator} {pos : Pos} (hp : opA o = p) (ha : GE sx X l (run cf a)) (hb : GE sx X r (run cf b)) : GE sx X (.BinOp l p r pos) (run cf (.op o a b)) := by
  refine ge_def ?_ (fun _ => rfl) (fun _ _ _ z => nomatch z)
  obtain ⟨rr, ho, hv⟩ := op2_ok X o
  rw [hp] at ho
  refine (pe_op ho ha.pe hb.pe).pvImp fun σ H Q ⟨sa, ca, env, s, F, d, fr, s', hs, he, hm, q⟩ => ?_
  simp only [run] at hm
  split at hm
  · rename_i x fx s1 h1
    split at hm
    · rename_i y fy s2 h2
      obtain ⟨z, hz, e⟩ := Option.map_eq_some_iff.mp hm
      simp only [Prod.mk.injEq] at e
      obtain ⟨rfl, rfl, rfl⟩ := e
      refine ⟨sa, ca, env, s, F, x, fx, s1, hs, he, h1, fun vx H1 as r1 => ?_⟩
      refine ⟨sa, ca, env, s1, F, y, fy, s2, r1.src, he.grow hs r1.g, h2, fun vy H2 bs r2 => ?_⟩
      exact hv sa ca s2 H2 vx vy x y z as bs Q r2.src (r1.rp.grow r1.src r2.g) r2.rp hz (out2 r1 r2 q)
    · cases hm
  · cases hm
theorem g_neg {a : CE} {x : Expr} {pos : Pos} (ha : GE sx X x (run cf a)) : GE sx X (.UnaryOp .USub x pos) (run cf (.neg a)) := by
  refine ge_def ?_ (fun _ => rfl) (fun _ _ _ z => nomatch z)
  refine (pe_un un_neg ha.pe).pvImp fun σ H Q ⟨sa, ca, env, s, F, d, fr, s', hs, he, hm, q⟩ => ?_
  simp only [run] at hm
  split at hm
  · rename_i i fx s1 h1
    simp only [Option.some.injEq, Prod.mk.injEq] at hm
    obtain ⟨rfl, rfl, rfl⟩ := hm
    refine ⟨sa, ca, env, s, F, .int i, fx, s1, hs, he, h1, fun vx H1 as r1 => ?_⟩
    cases r1.rp
    exact ⟨i, rfl, q _ H1 [] (.flat r1.g r1.src (.int _))⟩
  · cases hm
/-- a comparison and its test -/
theorem g_cmp {o : Cm} {a b : CE} {l r : Expr} {p : CmpOp} {pos : Pos} (x0 : XOk T N cf k X sc) (hp : cmA o = p) (hm : behindInMarks p r = false) (ha : GE sx X l (run cf a)) (hb : GE sx X r (run cf b)) :
    GE sx X (.Compare l [p] [r] pos) (run cf (.cmp o a b)) := by
  obtain ⟨rr, ho, hv⟩ := cm2_ok X x0.hu o
  rw [hp] at ho
  refine ⟨?_, ?_, fun _ _ _ z => nomatch z⟩
  · refine (pe_cmpR ho ha.pe hb.pe hm).pvImp fun σ H Q ⟨sa, ca, env, s, F, d, fr, s', hs, he, hm, q⟩ => ?_
    simp only [run] at hm
    split at hm
    · rename_i x fx s1 h1
      split at hm
      · rename_i y fy s2 h2
        obtain ⟨z, hz, e⟩ := Option.map_eq_some_iff.mp hm
        simp only [Prod.mk.injEq, PyData.bool.injEq] at e
        obtain ⟨rfl, rfl, rfl⟩ := e
        refine ⟨sa, ca, env, s, F, x, fx, s1, hs, he, h1, fun vx H1 as r1 => ?_⟩
        refine ⟨sa, ca, env, s1, F, y, fy, s2, r1.src, he.grow hs r1.g, h2, fun vy H2 bs r2 => ?_⟩
        exact hv sa ca H2 vx vy x y z as bs Q (r1.rp.grow r1.src r2.g) r2.rp hz (q _ H2 [] (.flat (r1.g.trans r2.g) r2.src (.bl _)))
      · cases hm
    · cases hm
  · refine (pt_cmpR ho ha.pe hb.pe hm).pvImp fun σ H Q ⟨sa, ca, env, s, F, d, fr, s', hs, he, hm, q⟩ => ?_
    simp only [run] at hm
    split at hm
    · rename_i x fx s1 h1
      split at hm
      · rename_i y fy s2 h2
        obtain ⟨z, hz, e⟩ := Option.map_eq_some_iff.mp hm
        simp only [Prod.mk.injEq, PyData.bool.injEq] at e
        obtain ⟨rfl, rfl, rfl⟩ := e
        refine ⟨sa, ca, env, s, F, x, fx, s1, hs, he, h1, fun vx H1 as r1 => ?_⟩
        refine ⟨sa, ca, env, s1, F, y, fy, s2, r1.src, he.grow hs r1.g, h2, fun vy H2 bs r2 => ?_⟩
        exact hv sa ca H2 vx vy x y z as bs _ (r1.rp.grow r1.src r2.g) r2.rp hz ⟨_, rfl, q H2 (r1.g.trans r2.g) r2.src⟩
      · cases hm
    · cases hm
theorem chain_run {o p : Cm} {a b c : CE} {env : Env} {s s' : Src} {d : D} {fr : Bool} (hm : run cf (.chain o p a b c) env s = some (d, fr, s')) : ∃ x fx s1 y fy s2, run cf a env s = some (x, fx, s1) ∧ run cf b env s1 = some (y, fy, s2) ∧
    ((cm2 o x y = some false ∧ d = .bool false ∧ s' = s2) ∨ (cm2 o x y = some true ∧ ∃ z fz r, run cf c env s2 = some (z, fz, s') ∧ cm2 p y z = some r ∧ d = .bool r)) ∧ fr = true := by
  simp only [run] at hm
  split at hm
  · rename_i x fx s1 h1
    split at hm
    · rename_i y fy s2 h2
      refine ⟨x, fx, s1, y, fy, s2, h1, h2, ?_⟩
      split at hm
      · rename_i e
        split at hm
        · rename_i z fz s3 h3
          obtain ⟨r, hr, e2⟩ := Option.map_eq_some_iff.mp hm
          cases e2
          exact ⟨.inr ⟨e, z, fz, r, h3, hr, rfl⟩, rfl⟩
        · cases hm
      · rename_i e
        cases hm
        exact ⟨.inl ⟨e, rfl, rfl⟩, rfl⟩
      · cases hm
    · cases hm
  · cases hm
theorem g_chain {o p : Cm} {a b c : CE} {l r z : Expr} {op op2 : CmpOp} {pos : Pos} (x0 : XOk T N cf k X sc) (hp : cmA o = op) (hp2 : cmA p = op2) (hm : lastMarks [op, op2] [r, z] = false) (ha : GE sx X l (run cf a)) (hb : GE sx X r (run cf b)) (hc : GE sx X z (run cf c)) :
    GE sx X (.Compare l [op, op2] [r, z] pos) (run cf (.chain o p a b c)) := by
  obtain ⟨rr, ho, hv⟩ := cm2_ok X x0.hu o
  obtain ⟨rr2, ho2, hv2⟩ := cm2_ok X x0.hu p
  rw [hp] at ho
  rw [hp2] at ho2
  refine ⟨?_, ?_, fun _ _ _ z => nomatch z⟩
  · refine (pe_chain ho ho2 ha.pe hb.pe hc.pe hm).pvImp fun σ H Q ⟨sa, ca, env, s, F, d, fr, s', hs, he, hm, q⟩ => ?_
    obtain ⟨x, fx, s1, y, fy, s2, h1, h2, h, hfr⟩ := chain_run hm
    subst hfr
    refine ⟨sa, ca, env, s, F, x, fx, s1, hs, he, h1, fun vx H1 as r1 => ?_⟩
    refine ⟨sa, ca, env, s1, F, y, fy, s2, r1.src, he.grow hs r1.g, h2, fun vy H2 bs r2 => ?_⟩
    rcases h with ⟨e, rfl, rfl⟩ | ⟨e, z, fz, rz, h3, e2, rfl⟩
    · exact hv sa ca H2 vx vy x y false as bs _ (r1.rp.grow r1.src r2.g) r2.rp e ⟨false, rfl, iteF (q _ H2 [] (.flat (r1.g.trans r2.g) r2.src (.bl _)))⟩
    · refine hv sa ca H2 vx vy x y true as bs _ (r1.rp.grow r1.src r2.g) r2.rp e ⟨true, rfl, iteT ?_⟩
      refine ⟨sa, ca, env, s2, F, z, fz, s', r2.src, he.grow hs (r1.g.trans r2.g), h3, fun vz H3 cs r3 => ?_⟩
      exact hv2 sa ca H3 vy vz y z rz bs cs Q (r2.rp.grow r2.src r3.g) r3.rp e2 (q _ H3 [] (.flat (r1.g.trans (r2.g.trans r3.g)) r3.src (.bl _)))
  · refine (pt_chain ho ho2 ha.pe hb.pe hc.pe hm).pvImp fun σ H Q ⟨sa, ca, env, s, F, d, fr, s', hs, he, hm, q⟩ => ?_
    obtain ⟨x, fx, s1, y, fy, s2, h1, h2, h, hfr⟩ := chain_run hm
    subst hfr
    refine ⟨sa, ca, env, s, F, x, fx, s1, hs, he, h1, fun vx H1 as r1 => ?_⟩
    refine ⟨sa, ca, env, s1, F, y, fy, s2, r1.src, he.grow hs r1.g, h2, fun vy H2 bs r2 => ?_⟩
    rcases h with ⟨e, e1, rfl⟩ | ⟨e, z, fz, rz, h3, e2, e1⟩
    · cases e1
      exact hv sa ca H2 vx vy x y false as bs _ (r1.rp.grow r1.src r2.g) r2.rp e ⟨false, rfl, iteF ⟨_, rfl, q H2 (r1.g.trans r2.g) r2.src⟩⟩
    · cases e1
      refine hv sa ca H2 vx vy x y true as bs _ (r1.rp.grow r1.src r2.g) r2.rp e ⟨true, rfl, iteT ?_⟩
      refine ⟨sa, ca, env, s2, F, z, fz, s', r2.src, he.grow hs (r1.g.trans r2.g), h3, fun vz H3 cs r3 => ?_⟩
      exact hv2 sa ca H3 vy vz y z _ bs cs _ (r2.rp.grow r2.src r3.g) r3.rp e2 ⟨_, rfl, q H3 (r1.g.trans (r2.g.trans r3.g)) r3.src⟩
end
end PV

/-! PV, part F: the other expressions. -/
namespace PV
open PySem PySem.Spec PyProof.Rows L2
section
variable {T : List FI} {N : List Str} {sx : Option Nat} {cf : CallF} {k : Nat} {X : Cx} {sc : Scope}

theorem one_run {a : CE} {f : D → Bool → Src → Option (D × Bool × Src)} {env : Env} {s : Src} {o : Option (D × Bool × Src)} {R : D × Bool × Src} (hm : (match run cf a env s with | some (x, fx, s1) => f x fx s1 | none => none) = some R) :
    ∃ x fx s1, run cf a env s = some (x, fx, s1) ∧ f x fx s1 = some R := by
  split at hm
  · rename_i x fx s1 h1
    exact ⟨x, fx, s1, h1, hm⟩
  · cases hm

/-! ### is None, is True -/
theorem isNon_ok {ca : Addr} {H : Hp} {v : V} {d : D} {as : List Addr} (r : Rp ca H v d as) : decide (v = V.non) = isNone d := by
  cases r <;> first | rfl | exact decide_eq_false (fun z => nomatch z)
theorem g_isN {a : CE} {l : Expr} {k2 : Nat} {p2 pos : Pos} (ha : GE sx X l (run cf a)) : GE sx X (.Compare l [.Is] [.Constant .none k2 p2] pos) (run cf (.isN a)) := by
  refine ⟨?_, ?_, fun _ _ _ z => nomatch z⟩
  · refine (pe_cmpR op_isN ha.pe pe_non (nomark _)).pvImp fun σ H Q ⟨sa, ca, env, s, F, d, fr, s', hs, he, hm, q⟩ => ?_
    simp only [run] at hm
    split at hm
    · rename_i x fx s1 h1
      cases hm
      refine ⟨sa, ca, env, s, F, x, fx, _, hs, he, h1, fun vx H1 as r1 => ⟨rfl, ?_⟩⟩
      rw [isNon_ok r1.rp]
      exact q _ H1 [] (.flat r1.g r1.src (.bl _))
    · cases hm
  · refine (pt_cmpR op_isN ha.pe pe_non (nomark _)).pvImp fun σ H Q ⟨sa, ca, env, s, F, d, fr, s', hs, he, hm, q⟩ => ?_
    simp only [run] at hm
    split at hm
    · rename_i x fx s1 h1
      cases hm
      refine ⟨sa, ca, env, s, F, x, fx, _, hs, he, h1, fun vx H1 as r1 => ⟨rfl, _, rfl, ?_⟩⟩
      rw [isNon_ok r1.rp]
      exact q H1 r1.g r1.src
    · cases hm
theorem g_notN {a : CE} {l : Expr} {k2 : Nat} {p2 pos : Pos} (ha : GE sx X l (run cf a)) : GE sx X (.Compare l [.IsNot] [.Constant .none k2 p2] pos) (run cf (.notN a)) := by
  refine ⟨?_, ?_, fun _ _ _ z => nomatch z⟩
  · refine (pe_cmpR op_notN ha.pe pe_non (nomark _)).pvImp fun σ H Q ⟨sa, ca, env, s, F, d, fr, s', hs, he, hm, q⟩ => ?_
    simp only [run] at hm
    split at hm
    · rename_i x fx s1 h1
      cases hm
      refine ⟨sa, ca, env, s, F, x, fx, _, hs, he, h1, fun vx H1 as r1 => ⟨rfl, ?_⟩⟩
      rw [isNon_ok r1.rp]
      exact q _ H1 [] (.flat r1.g r1.src (.bl _))
    · cases hm
  · refine (pt_cmpR op_notN ha.pe pe_non (nomark _)).pvImp fun σ H Q ⟨sa, ca, env, s, F, d, fr, s', hs, he, hm, q⟩ => ?_
    simp only [run] at hm
    split at hm
    · rename_i x fx s1 h1
      cases hm
      refine ⟨sa, ca, env, s, F, x, fx, _, hs, he, h1, fun vx H1 as r1 => ⟨rfl, _, rfl, ?_⟩⟩
      rw [isNon_ok r1.rp]
      exact q H1 r1.g r1.src
    · cases hm
theorem dec_t (b : Bool) : decide (b = true) = b := by cases b <;> rfl
theorem g_isT {a : CE} {l : Expr} {k2 : Nat} {p2 pos : Pos} (ha : GE sx X l (run cf a)) : GE sx X (.Compare l [.Is] [.Constant (.bool true) k2 p2] pos) (run cf (.isT a)) := by
  refine ⟨?_, ?_, fun _ _ _ z => nomatch z⟩
  · refine (pe_cmpR op_isBl ha.pe pe_bl (nomark _)).pvImp fun σ H Q ⟨sa, ca, env, s, F, d, fr, s', hs, he, hm, q⟩ => ?_
    simp only [run] at hm
    split at hm
    · rename_i b fx s1 h1
      simp only [Option.some.injEq, Prod.mk.injEq, PyData.bool.injEq] at hm
      obtain ⟨rfl, rfl, rfl⟩ := hm
      refine ⟨sa, ca, env, s, F, .bool b, fx, _, hs, he, h1, fun vx H1 as r1 => ?_⟩
      cases r1.rp
      refine ⟨b, true, rfl, rfl, ?_⟩
      rw [dec_t]
      exact q _ H1 [] (.flat r1.g r1.src (.bl _))
    · cases hm
  · refine (pt_cmpR op_isBl ha.pe pe_bl (nomark _)).pvImp fun σ H Q ⟨sa, ca, env, s, F, d, fr, s', hs, he, hm, q⟩ => ?_
    simp only [run] at hm
    split at hm
    · rename_i b fx s1 h1
      simp only [Option.some.injEq, Prod.mk.injEq, PyData.bool.injEq] at hm
      obtain ⟨rfl, rfl, rfl⟩ := hm
      refine ⟨sa, ca, env, s, F, .bool b, fx, _, hs, he, h1, fun vx H1 as r1 => ?_⟩
      cases r1.rp
      refine ⟨b, true, rfl, rfl, _, rfl, ?_⟩
      rw [dec_t]
      exact q H1 r1.g r1.src
    · cases hm
theorem g_notT {a : CE} {l : Expr} {k2 : Nat} {p2 pos : Pos} (ha : GE sx X l (run cf a)) : GE sx X (.Compare l [.IsNot] [.Constant (.bool true) k2 p2] pos) (run cf (.notT a)) := by
  refine ⟨?_, ?_, fun _ _ _ z => nomatch z⟩
  · refine (pe_cmpR op_notBl ha.pe pe_bl (nomark _)).pvImp fun σ H Q ⟨sa, ca, env, s, F, d, fr, s', hs, he, hm, q⟩ => ?_
    simp only [run] at hm
    split at hm
    · rename_i b fx s1 h1
      cases hm
      refine ⟨sa, ca, env, s, F, .bool b, fx, _, hs, he, h1, fun vx H1 as r1 => ?_⟩
      cases r1.rp
      refine ⟨b, true, rfl, rfl, ?_⟩
      rw [dec_t]
      exact q _ H1 [] (.flat r1.g r1.src (.bl _))
    · cases hm
  · refine (pt_cmpR op_notBl ha.pe pe_bl (nomark _)).pvImp fun σ H Q ⟨sa, ca, env, s, F, d, fr, s', hs, he, hm, q⟩ => ?_
    simp only [run] at hm
    split at hm
    · rename_i b fx s1 h1
      cases hm
      refine ⟨sa, ca, env, s, F, .bool b, fx, _, hs, he, h1, fun vx H1 as r1 => ?_⟩
      cases r1.rp
      refine ⟨b, true, rfl, rfl, _, rfl, ?_⟩
      rw [dec_t]
      exact q H1 r1.g r1.src
    · cases hm

/-! ### and, or, not, if-else -/
theorem and_run {a b : CE} {env : Env} {s s' : Src} {d : D} {fr : Bool} (hm : run cf (.and a b) env s = some (d, fr, s')) : ∃ v f s1, run cf a env s = some (.bool v, f, s1) ∧ if v = true then run cf b env s1 = some (d, fr, s') else d = .bool false ∧ fr = true ∧ s' = s1 := by
  simp only [run] at hm
  split at hm
  · rename_i f s1 h1
    exact ⟨true, f, s1, h1, iteT hm⟩
  · rename_i f s1 h1
    cases hm
    exact ⟨false, f, _, h1, iteF ⟨rfl, rfl, rfl⟩⟩
  · cases hm
theorem or_run {a b : CE} {env : Env} {s s' : Src} {d : D} {fr : Bool} (hm : run cf (.or a b) env s = some (d, fr, s')) : ∃ v f s1, run cf a env s = some (.bool v, f, s1) ∧ if v = true then d = .bool true ∧ fr = true ∧ s' = s1 else run cf b env s1 = some (d, fr, s') := by
  simp only [run] at hm
  split at hm
  · rename_i f s1 h1
    cases hm
    exact ⟨true, f, _, h1, iteT ⟨rfl, rfl, rfl⟩⟩
  · rename_i f s1 h1
    exact ⟨false, f, s1, h1, iteF hm⟩
  · cases hm
theorem and_imp {ma mb : Env → Src → Option (D × Bool × Src)} {a b : CE} (σ : L2.St) (H : Hp) (Q : VK) (h : tE sx (run cf (.and a b)) σ H Q) : tAndV (tE sx (run cf a)) (tE sx (run cf b)) σ H Q := by
  obtain ⟨sa, ca, env, s, F, d, fr, s', hs, he, hm, q⟩ := h
  obtain ⟨v, f, s1, h1, h2⟩ := and_run hm
  refine ⟨sa, ca, env, s, F, _, f, s1, hs, he, h1, fun vx H1 as r1 => ?_⟩
  cases r1.rp
  refine ⟨v, rfl, ite2 (fun e => ?_) (fun e => ?_)⟩
  · rw [if_pos e] at h2
    exact ⟨sa, ca, env, s1, F, d, fr, s', r1.src, he.grow hs r1.g, h2, fun vy H2 bs r2 => q vy H2 bs (r1.step r2)⟩
  · rw [if_neg e] at h2
    obtain ⟨rfl, rfl, rfl⟩ := h2
    exact q _ H1 [] (.flat r1.g r1.src (.bl _))
theorem or_imp {ma mb : Env → Src → Option (D × Bool × Src)} {a b : CE} (σ : L2.St) (H : Hp) (Q : VK) (h : tE sx (run cf (.or a b)) σ H Q) : tOrV (tE sx (run cf a)) (tE sx (run cf b)) σ H Q := by
  obtain ⟨sa, ca, env, s, F, d, fr, s', hs, he, hm, q⟩ := h
  obtain ⟨v, f, s1, h1, h2⟩ := or_run hm
  refine ⟨sa, ca, env, s, F, _, f, s1, hs, he, h1, fun vx H1 as r1 => ?_⟩
  cases r1.rp
  refine ⟨v, rfl, ite2 (fun e => ?_) (fun e => ?_)⟩
  · rw [if_pos e] at h2
    obtain ⟨rfl, rfl, rfl⟩ := h2
    exact q _ H1 [] (.flat r1.g r1.src (.bl _))
  · rw [if_neg e] at h2
    exact ⟨sa, ca, env, s1, F, d, fr, s', r1.src, he.grow hs r1.g, h2, fun vy H2 bs r2 => q vy H2 bs (r1.step r2)⟩
theorem andT_imp {a b : CE} (σ : L2.St) (H : Hp) (Q : Bool → Hp → Prop) (h : tT sx (run cf (.and a b)) σ H Q) : tAnd (tT sx (run cf a)) (tT sx (run cf b)) σ H Q := by
  obtain ⟨sa, ca, env, s, F, d, fr, s', hs, he, hm, q⟩ := h
  obtain ⟨v, f, s1, h1, h2⟩ := and_run hm
  refine ⟨sa, ca, env, s, F, v, f, s1, hs, he, h1, fun H1 g1 x1 => ite2 (fun e => ?_) (fun e => ?_)⟩
  · rw [if_pos e] at h2
    exact ⟨sa, ca, env, s1, F, d, fr, s', x1, he.grow hs g1, h2, fun H2 g2 x2 => q H2 (g1.trans g2) x2⟩
  · rw [if_neg e] at h2
    obtain ⟨e1, rfl, rfl⟩ := h2
    cases e1
    exact q H1 g1 x1
theorem orT_imp {a b : CE} (σ : L2.St) (H : Hp) (Q : Bool → Hp → Prop) (h : tT sx (run cf (.or a b)) σ H Q) : tOr (tT sx (run cf a)) (tT sx (run cf b)) σ H Q := by
  obtain ⟨sa, ca, env, s, F, d, fr, s', hs, he, hm, q⟩ := h
  obtain ⟨v, f, s1, h1, h2⟩ := or_run hm
  refine ⟨sa, ca, env, s, F, v, f, s1, hs, he, h1, fun H1 g1 x1 => ite2 (fun e => ?_) (fun e => ?_)⟩
  · rw [if_pos e] at h2
    obtain ⟨e1, rfl, rfl⟩ := h2
    cases e1
    exact q H1 g1 x1
  · rw [if_neg e] at h2
    exact ⟨sa, ca, env, s1, F, d, fr, s', x1, he.grow hs g1, h2, fun H2 g2 x2 => q H2 (g1.trans g2) x2⟩
theorem ge_pw {e : Expr} {m : Env → Src → Option (D × Bool × Src)} (h : PE X e (tE sx m)) (w : PW X e (tT sx m)) : GE sx X e m := ⟨h, w.pt, fun _ _ _ _ => w⟩
theorem g_and2 {a b : CE} {x y : Expr} {pos : Pos} (ha : GE sx X x (run cf a)) (hb : GE sx X y (run cf b)) : GE sx X (.BoolOp .And [x, y] pos) (run cf (.and a b)) :=
  ge_pw ((pe_and ha.pe (pe_one hb.pe)).pvImp (and_imp (ma := run cf a) (mb := run cf b))) ((pw_and ha.pt (pw_and1 hb.pt)).pvImp andT_imp)
theorem g_andN {a b : CE} {x y : Expr} {r : List Expr} {pos : Pos} (ha : GE sx X x (run cf a)) (hb : GE sx X (.BoolOp .And (y :: r) pos) (run cf b)) : GE sx X (.BoolOp .And (x :: y :: r) pos) (run cf (.and a b)) :=
  ge_pw ((pe_and ha.pe hb.pe).pvImp (and_imp (ma := run cf a) (mb := run cf b))) ((pw_and ha.pt (hb.pw _ _ _ rfl)).pvImp andT_imp)
theorem g_or2 {a b : CE} {x y : Expr} {pos : Pos} (ha : GE sx X x (run cf a)) (hb : GE sx X y (run cf b)) : GE sx X (.BoolOp .Or [x, y] pos) (run cf (.or a b)) :=
  ge_pw ((pe_or ha.pe (pe_one hb.pe)).pvImp (or_imp (ma := run cf a) (mb := run cf b))) ((pw_or ha.pt (pw_or1 hb.pt)).pvImp orT_imp)
theorem g_orN {a b : CE} {x y : Expr} {r : List Expr} {pos : Pos} (ha : GE sx X x (run cf a)) (hb : GE sx X (.BoolOp .Or (y :: r) pos) (run cf b)) : GE sx X (.BoolOp .Or (x :: y :: r) pos) (run cf (.or a b)) :=
  ge_pw ((pe_or ha.pe hb.pe).pvImp (or_imp (ma := run cf a) (mb := run cf b))) ((pw_or ha.pt (hb.pw _ _ _ rfl)).pvImp orT_imp)
theorem g_not {a : CE} {x : Expr} {pos : Pos} (ha : GE sx X x (run cf a)) : GE sx X (.UnaryOp .Not x pos) (run cf (.not a)) := by
  refine ⟨?_, ?_, fun _ _ _ z => nomatch z⟩
  · refine (pe_not ha.pe).pvImp fun σ H Q ⟨sa, ca, env, s, F, d, fr, s', hs, he, hm, q⟩ => ?_
    simp only [run] at hm
    split at hm
    · rename_i b fx s1 h1
      cases hm
      refine ⟨sa, ca, env, s, F, .bool b, fx, _, hs, he, h1, fun vx H1 as r1 => ?_⟩
      cases r1.rp
      exact ⟨b, rfl, q _ H1 [] (.flat r1.g r1.src (.bl _))⟩
    · cases hm
  · refine (pt_not ha.pt).pvImp fun σ H Q ⟨sa, ca, env, s, F, d, fr, s', hs, he, hm, q⟩ => ?_
    simp only [run] at hm
    split at hm
    · rename_i b fx s1 h1
      cases hm
      exact ⟨sa, ca, env, s, F, b, fx, _, hs, he, h1, fun H1 g1 x1 => q H1 g1 x1⟩
    · cases hm
theorem ite_run {c a b : CE} {env : Env} {s s' : Src} {d : D} {fr : Bool} (hm : run cf (.ite c a b) env s = some (d, fr, s')) : ∃ v f s1, run cf c env s = some (.bool v, f, s1) ∧ if v = true then run cf a env s1 = some (d, fr, s') else run cf b env s1 = some (d, fr, s') := by
  simp only [run] at hm
  split at hm
  · rename_i f s1 h1
    exact ⟨true, f, s1, h1, iteT hm⟩
  · rename_i f s1 h1
    exact ⟨false, f, s1, h1, iteF hm⟩
  · cases hm
theorem g_ite {c a b : CE} {t x y : Expr} {pos : Pos} (hc : GE sx X t (run cf c)) (ha : GE sx X x (run cf a)) (hb : GE sx X y (run cf b)) : GE sx X (.IfExp t x y pos) (run cf (.ite c a b)) := by
  refine ⟨?_, ⟨fun pins s0 σ H Q I h => ?_⟩, fun _ _ _ z => nomatch z⟩
  · refine (pe_ifExp hc.pt ha.pe hb.pe).pvImp fun σ H Q ⟨sa, ca, env, s, F, d, fr, s', hs, he, hm, q⟩ => ?_
    obtain ⟨v, f, s1, h1, h2⟩ := ite_run hm
    refine ⟨sa, ca, env, s, F, v, f, s1, hs, he, h1, fun H1 g1 x1 => ite2 (fun e => ?_) (fun e => ?_)⟩
    · rw [if_pos e] at h2
      exact ⟨sa, ca, env, s1, F, d, fr, s', x1, he.grow hs g1, h2, fun vy H2 bs r2 => q vy H2 bs ⟨g1.trans r2.g, r2.src, r2.rp, fun h => ⟨(r2.fr h).1, fun a ha => g1.dom a ((r2.fr h).2 a ha)⟩, fun a ha => (r2.al a ha).imp_left (g1.dom a)⟩⟩
    · rw [if_neg e] at h2
      exact ⟨sa, ca, env, s1, F, d, fr, s', x1, he.grow hs g1, h2, fun vy H2 bs r2 => q vy H2 bs ⟨g1.trans r2.g, r2.src, r2.rp, fun h => ⟨(r2.fr h).1, fun a ha => g1.dom a ((r2.fr h).2 a ha)⟩, fun a ha => (r2.al a ha).imp_left (g1.dom a)⟩⟩
  · obtain ⟨sa, ca, env, s, F, d, fr, s', hs, he, hm, q⟩ := h
    obtain ⟨v, f, s1, h1, h2⟩ := ite_run hm
    show wpAny (model X.prog X.w) X.A (do if ← isTrue t X.env (eval t X.env) then isTrue x X.env (eval x X.env) else isTrue y X.env (eval y X.env)) _ _ s0
    refine wpAny_bind (thn (hc.pt.run pins s0 σ H (fun b H1 => b = v ∧ Grow sa ca H H1 ∧ SrcAt sa ca s1 H1) I ⟨sa, ca, env, s, F, v, f, s1, hs, he, h1, fun H1 g1 x1 => ⟨rfl, g1, x1⟩⟩) fun b s2 ⟨H1, I1, e, g1, x1⟩ => ?_)
    subst e
    cases b with
    | true =>
      rw [if_pos rfl] at h2
      exact ha.pt.run pins s2 σ H1 Q I1 ⟨sa, ca, env, s1, F, d, fr, s', x1, he.grow hs g1, h2, fun H2 g2 x2 => q H2 (g1.trans g2) x2⟩
    | false =>
      rw [if_neg Bool.false_ne_true] at h2
      exact hb.pt.run pins s2 σ H1 Q I1 ⟨sa, ca, env, s1, F, d, fr, s', x1, he.grow hs g1, h2, fun H2 g2 x2 => q H2 (g1.trans g2) x2⟩

/-! ### argument lists, displays -/
theorem s_nil : PA X [] (tEs sx (runs cf .nil)) := pa_nil.pvImp fun σ H Q ⟨sa, ca, env, s, F, d, fr, s', hs, he, hm, q⟩ => by
  simp only [runs] at hm
  cases hm
  exact q [] H [] ⟨.refl, hs, .nil, fun _ => ⟨List.nodup_nil, fun _ h => nomatch h⟩, fun _ h => nomatch h⟩
theorem nd_two {as bs : List Addr} {H H1 : Hp} (h1 : as.Nodup ∧ ∀ a ∈ as, H a = none) (h2 : bs.Nodup ∧ ∀ a ∈ bs, H1 a = none) (ht : ∀ a ∈ as, H1 a ≠ none) (hd : ∀ a, H1 a = none → H a = none) : (as ++ bs).Nodup ∧ ∀ a ∈ as ++ bs, H a = none := by
  refine ⟨List.nodup_append.mpr ⟨h1.1, h2.1, fun a ha b hb e => ?_⟩, fun a ha => ?_⟩
  · subst e; exact ht a ha (h2.2 a hb)
  · rcases List.mem_append.mp ha with ha | ha
    · exact h1.2 a ha
    · exact hd a (h2.2 a ha)
theorem trk_ne {ca : Addr} {H : Hp} {v : V} {d : D} {as : List Addr} (r : Rp ca H v d as) : ∀ a ∈ as, H a ≠ none := fun a ha => by
  obtain ⟨_, xs, e⟩ := r.trk a ha
  rw [e]; intro z; cases z
theorem trks_ne {ca : Addr} {H : Hp} {v : List V} {d : List D} {as : List Addr} (r : RpAll ca H v d as) : ∀ a ∈ as, H a ≠ none := fun a ha => by
  obtain ⟨_, xs, e⟩ := r.trk a ha
  rw [e]; intro z; cases z
theorem s_cons {a : CE} {r : CEs} {e : Expr} {es : List Expr} (hs : starE e = false) (ha : PE X e (tE sx (run cf a))) (hr : PA X es (tEs sx (runs cf r))) : PA X (e :: es) (tEs sx (runs cf (.cons a r))) := by
  refine (pa_cons ha hr (starEach_cons hs)).pvImp fun σ H Q ⟨sa, ca, env, s, F, d, fr, s', hs, he, hm, q⟩ => ?_
  simp only [runs] at hm
  split at hm
  · rename_i x fx s1 h1
    split at hm
    · rename_i xs fxs s2 h2
      simp only [Option.some.injEq, Prod.mk.injEq] at hm
      obtain ⟨rfl, rfl, rfl⟩ := hm
      refine ⟨sa, ca, env, s, F, x, fx, s1, hs, he, h1, fun vx H1 as r1 => ?_⟩
      refine ⟨sa, ca, env, s1, F, xs, fxs, s2, r1.src, he.grow hs r1.g, h2, fun vxs H2 bs r2 => ?_⟩
      refine q _ H2 (as ++ bs) ⟨r1.g.trans r2.g, r2.src, .cons (r1.rp.grow r1.src r2.g) r2.rp, fun h => ?_, fun b hb => ?_⟩
      · obtain ⟨f1, f2⟩ := (Bool.and_eq_true _ _).mp h
        exact nd_two (fr_or r1.rp r1.fr f1) (r2.fr f2) (trk_ne r1.rp) r1.g.dom
      · rcases List.mem_append.mp hb with hb | hb
        · exact r1.al b hb
        · exact (r2.al b hb).imp_left (r1.g.dom b)
    · cases hm
  · cases hm
theorem s_star {a : CE} {r : CEs} {e : Expr} {p : Pos} {es : List Expr} (ha : PE X e (tE sx (run cf a))) (hr : PA X es (tEs sx (runs cf r))) : PA X (.Starred e p :: es) (tEs sx (runs cf (.star a r))) := by
  refine (StX.pa_star ha hr).pvImp fun σ H Q ⟨sa, ca, env, s, F, d, fr, s', hs, he, hm, q⟩ => ?_
  simp only [runs] at hm
  split at hm
  · rename_i x fx s1 h1
    split at hm
    · rename_i ys hy
      split at hm
      · rename_i xs fxs s2 h2
        simp only [Option.some.injEq, Prod.mk.injEq] at hm
        obtain ⟨rfl, rfl, rfl⟩ := hm
        refine ⟨sa, ca, env, s, F, x, fx, s1, hs, he, h1, fun vx H1 as r1 => ?_⟩
        have fin : ∀ (a : Addr) (vs : List V) (bs : List Addr), RpAll ca H1 vs ys bs → (∀ b ∈ bs, b ∈ as) → tEs sx (runs cf r) σ H1 fun ws H2 => Q (vs ++ ws) H2 := fun a vs bs rv sub =>
          ⟨sa, ca, env, s1, F, xs, fxs, s2, r1.src, he.grow hs r1.g, h2, fun vxs H2 cs r2 => by
            refine q _ H2 (bs ++ cs) ⟨r1.g.trans r2.g, r2.src, (rv.grow r1.src r2.g).append r2.rp, fun h => ?_, fun b hb => ?_⟩
            · obtain ⟨f1, f2⟩ := (Bool.and_eq_true _ _).mp h
              refine nd_two ?_ (r2.fr f2) (trks_ne rv) r1.g.dom
              rw [rv.noL_nil f1]
              exact ⟨List.nodup_nil, fun _ h => nomatch h⟩
            · rcases List.mem_append.mp hb with hb | hb
              · exact r1.al b (sub b hb)
              · exact (r2.al b hb).imp_left (r1.g.dom b)⟩
        cases x <;> simp only [items?] at hy <;> first | (cases hy; done) | skip
        · cases hy
          cases r1.rp with
          | @lst p xs _ bs e1 n1 rv => exact ⟨p, xs, rfl, .inr (.of e1), fin p xs bs rv fun b hb => List.mem_cons_of_mem _ hb⟩
        · cases hy
          cases r1.rp with
          | @tup p xs _ bs e1 rv => exact ⟨p, xs, rfl, .inl (.of e1), fin p xs as rv fun b hb => hb⟩
      · cases hm
    · cases hm
  · cases hm
theorem g_tup {es : CEs} {xs : List Expr} {k2 : Nat} {pos : Pos} (h : PA X xs (tEs sx (runs cf es))) : GE sx X (.Tuple xs k2 pos) (run cf (.tup es)) := by
  refine ge_def ?_ (fun _ => rfl) (fun _ _ _ z => nomatch z)
  refine (pe_tup h).pvImp fun σ H Q ⟨sa, ca, env, s, F, d, fr, s', hs, he, hm, q⟩ => ?_
  simp only [run] at hm
  split at hm
  · rename_i ds fx s1 h1
    split at hm
    · rename_i hz
      simp only [Option.some.injEq, Prod.mk.injEq] at hm
      obtain ⟨rfl, rfl, rfl⟩ := hm
      refine ⟨sa, ca, env, s, F, ds, fx, s1, hs, he, h1, fun vs H1 as r1 => ⟨by rw [r1.rp.len]; exact of_decide_eq_true hz, fun p hp => ?_⟩⟩
      exact q _ _ as ⟨r1.g.trans (.new hp), r1.src.new hp, .tup upd_same (r1.rp.grow r1.src (.new hp)), r1.fr, r1.al⟩
    · cases hm
  · cases hm
theorem new_ne {sa ca p : Addr} {s : Src} {H : Hp} (x : SrcAt sa ca s H) (hp : H p = none) : p ≠ ca := by
  intro e; subst e; rw [x.2] at hp; cases hp
theorem g_lst {es : CEs} {xs : List Expr} {pos : Pos} (h : PA X xs (tEs sx (runs cf es))) : GE sx X (.List xs pos) (run cf (.lst es)) := by
  refine ge_def ?_ (fun _ => rfl) (fun _ _ _ z => nomatch z)
  refine (pe_lst h).pvImp fun σ H Q ⟨sa, ca, env, s, F, d, fr, s', hs, he, hm, q⟩ => ?_
  simp only [run] at hm
  split at hm
  · rename_i ds fx s1 h1
    split at hm
    · rename_i hz
      simp only [Option.some.injEq, Prod.mk.injEq] at hm
      obtain ⟨rfl, rfl, rfl⟩ := hm
      refine ⟨sa, ca, env, s, F, ds, fx, s1, hs, he, h1, fun vs H1 as r1 => ⟨by rw [r1.rp.len]; exact of_decide_eq_true hz, fun p hp => ?_⟩⟩
      refine q _ _ (p :: as) ⟨r1.g.trans (.new hp), r1.src.new hp, .lst upd_same (new_ne r1.src hp) (r1.rp.grow r1.src (.new hp)), fun h => ?_, fun a ha => ?_⟩
      · have f := r1.fr h
        refine ⟨List.nodup_cons.mpr ⟨fun hm => trks_ne r1.rp p hm hp, f.1⟩, fun a ha => ?_⟩
        rcases List.mem_cons.mp ha with rfl | ha
        · exact r1.g.dom a hp
        · exact f.2 a ha
      · rcases List.mem_cons.mp ha with rfl | ha
        · exact .inl (r1.g.dom a hp)
        · exact r1.al a ha
    · cases hm
  · cases hm
end
end PV

/-! PV, part G: items, slices, built-in functions, calls. -/
namespace PV
open PySem PySem.Spec PyProof.Rows L2
section
variable {T : List FI} {N : List Str} {sx : Option Nat} {cf : CallF} {k : Nat} {X : Cx} {sc : Scope}

theorem RpAll.atI {ca : Addr} {H : Hp} {ds : List D} {vs : List V} {as : List Addr} {i : Int} {d : D} (h : RpAll ca H vs ds as) (e : ixD ds i = some d) : ∃ v bs, L2.atI vs i = some v ∧ Rp ca H v d bs ∧ ∀ a ∈ bs, a ∈ as := by
  unfold ixD L2.atI at e
  cases q : ixN ds.length i with
  | none => rw [q] at e; cases e
  | some j =>
    rw [q] at e
    obtain ⟨v, bs, e1, r, sub⟩ := h.get (i := j) (d := d) e
    refine ⟨v, bs, ?_, r, sub⟩
    unfold L2.atI
    rw [h.len, q]
    exact e1
theorem RpAll.cut {ca : Addr} {H : Hp} {ds : List D} {vs : List V} {as : List Addr} (lo hi : Option Int) (h : RpAll ca H vs ds as) : ∃ bs, RpAll ca H (cutV vs lo hi) (cutD ds lo hi) bs ∧ ∀ a ∈ bs, a ∈ as := by
  unfold cutV cutD
  rw [h.len]
  obtain ⟨bs, r, sub⟩ := h.drop (HT.sIx ds.length 0 lo)
  obtain ⟨cs, r2, sub2⟩ := r.take (HT.sIx ds.length ds.length hi - HT.sIx ds.length 0 lo)
  exact ⟨cs, r2, fun a ha => sub a (sub2 a ha)⟩
theorem cutD_all {ds : List D} {lo hi : Option Int} (h1 : HT.sIx ds.length 0 lo = 0) (h2 : HT.sIx ds.length ds.length hi = ds.length) : cutD ds lo hi = ds := by
  unfold cutD
  rw [h1, h2]
  simp

theorem g_ix {a i : CE} {x y : Expr} {pos : Pos} (hp : PlainIx y) (ha : GE sx X x (run cf a)) (hi : GE sx X y (run cf i)) : GE sx X (.Subscript x y pos) (run cf (.ix a i)) := by
  refine ge_def ?_ (fun _ => rfl) (fun _ _ _ z => nomatch z)
  refine (pe_ix (ix_list.or ix_tup) ha.pe hi.pe hp).pvImp fun σ H Q ⟨sa, ca, env, s, F, d, fr, s', hs, he, hm, q⟩ => ?_
  simp only [run] at hm
  split at hm
  · rename_i dx fx s1 h1
    split at hm
    · rename_i j fy s2 h2
      split at hm
      · rename_i xs hx
        obtain ⟨z, hz, e⟩ := Option.map_eq_some_iff.mp hm
        simp only [Prod.mk.injEq] at e
        obtain ⟨rfl, rfl, rfl⟩ := e
        refine ⟨sa, ca, env, s, F, dx, fx, s1, hs, he, h1, fun vx H1 as r1 => ?_⟩
        refine ⟨sa, ca, env, s1, F, .int j, fy, s2, r1.src, he.grow hs r1.g, h2, fun vy H2 bs r2 => ?_⟩
        have rx := r1.rp.grow r1.src r2.g
        cases r2.rp
        have fin : ∀ (v : V) (cs : List Addr), Rp ca H2 v z cs → (∀ b ∈ cs, b ∈ as) → Q v H2 := fun v cs rv sub =>
          q v H2 cs ⟨r1.g.trans r2.g, r2.src, rv, fun h => fr_nil rv (frC_noL h), fun b hb => r1.al b (sub b hb)⟩
        cases dx <;> simp only [items?] at hx <;> first | (cases hx; done) | skip
        · cases hx
          cases rx with
          | lst e1 n1 rv =>
            obtain ⟨v, cs, e2, r, sub⟩ := rv.atI hz
            exact .inl ⟨_, _, j, v, rfl, rfl, .of e1, e2, fin v cs r fun b hb => List.mem_cons_of_mem _ (sub b hb)⟩
        · cases hx
          cases rx with
          | tup e1 rv =>
            obtain ⟨v, cs, e2, r, sub⟩ := rv.atI hz
            exact .inr ⟨_, _, j, v, rfl, rfl, .of e1, e2, fin v cs r sub⟩
      · cases hm
    · cases hm
  · cases hm

/-! ### slices -/
theorem po_no : PO X none (fun σ H Q => tEO sx (runO cf .no) σ H Q) := by
  refine ⟨fun pins s σ H Q I h => po_none.run pins s σ H Q I ?_⟩
  obtain ⟨sa, ca, env, s, F, d, s', hs, he, hm, q⟩ := h
  simp only [runO] at hm
  cases hm
  exact q H .refl hs
theorem po_so {a : CE} {e : Expr} (ha : PE X e (tE sx (run cf a))) : PO X (some e) (fun σ H Q => tEO sx (runO cf (.so a)) σ H Q) := by
  refine ⟨fun pins s σ H Q I h => (po_some ha).run pins s σ H Q I ?_⟩
  obtain ⟨sa, ca, env, s, F, d, s', hs, he, hm, q⟩ := h
  simp only [runO] at hm
  split at hm
  · rename_i i fx s1 h1
    cases hm
    refine ⟨sa, ca, env, s, F, .int i, fx, _, hs, he, h1, fun vx H1 as r1 => ?_⟩
    cases r1.rp
    exact ⟨_, rfl, q H1 r1.g r1.src⟩
  · cases hm
theorem g_sl {a : CE} {lo hi : CO} {x : Expr} {l h : Option Expr} {p pos : Pos} (ha : GE sx X x (run cf a)) (hl : PO X l (fun σ H Q => tEO sx (runO cf lo) σ H Q)) (hh : PO X h (fun σ H Q => tEO sx (runO cf hi) σ H Q)) :
    GE sx X (.Subscript x (.Slice l h none p) pos) (run cf (.sl a lo hi)) := by
  refine ge_def ?_ (fun _ => rfl) (fun _ _ _ z => nomatch z)
  refine (pe_slice (sl_list.or sl_tupA) ha.pe hl hh).pvImp fun σ H Q ⟨sa, ca, env, s, F, d, fr, s', hs, he, hm, q⟩ => ?_
  simp only [run] at hm
  split at hm
  · rename_i dx fx s1 h1
    split at hm
    · rename_i lv s2 h2
      split at hm
      · rename_i hv s3 h3
        refine ⟨sa, ca, env, s, F, dx, fx, s1, hs, he, h1, fun vx H1 as r1 => ?_⟩
        refine ⟨sa, ca, env, s1, F, lv, s2, r1.src, he.grow hs r1.g, h2, fun H2 g2 x2 => ?_⟩
        refine ⟨sa, ca, env, s2, F, hv, s3, x2, (he.grow hs r1.g).grow r1.src g2, h3, fun H3 g3 x3 => ?_⟩
        have r3 : Res sa ca H env F dx fx s3 vx H3 as := r1.keep (g2.trans g3) x3
        split at hm
        · rename_i ds
          simp only [Option.some.injEq, Prod.mk.injEq] at hm
          obtain ⟨rfl, rfl, rfl⟩ := hm
          cases r3.rp with
          | @lst p vs _ bs e1 n1 rv =>
            obtain ⟨cs, r, sub⟩ := rv.cut lv hv
            refine .inl ⟨p, vs, rfl, .of e1, fun t ht => ?_⟩
            exact (out1 r3 q).lst (fun z => z) r (fun b hb => List.mem_cons_of_mem _ (sub b hb)) r3.src ht
        · rename_i ds
          simp only [Option.some.injEq, Prod.mk.injEq] at hm
          obtain ⟨rfl, rfl, rfl⟩ := hm
          cases r3.rp with
          | @tup p vs _ bs e1 rv =>
            obtain ⟨cs, r, sub⟩ := rv.cut lv hv
            refine .inr ⟨p, vs, rfl, .of e1, fun ⟨z1, z2⟩ => ?_, fun _ t ht => (out1 r3 q).tup r sub r3.src ht⟩
            rw [rv.len] at z1 z2
            have o := out1 r3 q
            rw [cutD_all z1 z2] at o
            exact o.same r3.rp fun b hb => hb
        · cases hm
      · cases hm
    · cases hm
  · cases hm
theorem noLs_rev : ∀ {ds : List D}, noLs ds.reverse = noLs ds := by
  have app : ∀ (a b : List D), noLs (a ++ b) = (noLs a && noLs b) := by
    intro a b
    induction a with
    | nil => simp [noLs]
    | cons x r ih => simp [noLs, ih, Bool.and_assoc]
  intro ds
  induction ds with
  | nil => rfl
  | cons d ds ih => rw [List.reverse_cons, app, ih]; simp [noLs, Bool.and_comm]
theorem g_rev {a : CE} {x : Expr} {k2 : Nat} {p1 p2 p3 pos : Pos} (ha : GE sx X x (run cf a)) : GE sx X (.Subscript x (.Slice none none (some (.UnaryOp .USub (.Constant (.int 1) k2 p1) p2)) p3) pos) (run cf (.rev a)) := by
  refine ge_def ?_ (fun _ => rfl) (fun _ _ _ z => nomatch z)
  refine (pe_revL ha.pe).pvImp fun σ H Q ⟨sa, ca, env, s, F, d, fr, s', hs, he, hm, q⟩ => ?_
  simp only [run] at hm
  split at hm
  · rename_i ds fx s1 h1
    simp only [Option.some.injEq, Prod.mk.injEq] at hm
    obtain ⟨rfl, rfl, rfl⟩ := hm
    refine ⟨sa, ca, env, s, F, .list ds, fx, s1, hs, he, h1, fun vx H1 as r1 => ?_⟩
    cases r1.rp with
    | @lst p vs _ bs e1 n1 rv =>
      obtain ⟨cs, r, sub⟩ := rv.reverse
      refine ⟨p, vs, rfl, .of e1, fun t ht => ?_⟩
      exact (out1 r1 q).lst (fun z => by rw [noLs_rev]; exact z) r (fun b hb => List.mem_cons_of_mem _ (sub b hb)) r1.src ht
  · cases hm

/-! ### built-in functions -/
theorem boot_bi (b : Bi) : bootBuiltins (biN b) = some (biV b) := by cases b <;> decide +kernel
theorem biN_ne (b : Bi) : biN b ≠ "__name__" ∧ (biN b == ("__debug__" : Str)) = false ∧ biN b ∈ bnames := by cases b <;> decide
theorem gl_ok {x : Str} (x0 : XOk T N cf k X sc) (h : isGl sc x = true) : Gl X x := by
  show X.env.scope.names.lookup x = _
  rw [x0.scp]
  exact isGl_ok h
theorem g_bi {b : Bi} {e : CE} {es : CEs} {x : Expr} {xs : List Expr} {p pos : Pos} {g : Str} (x0 : XOk T N cf k X sc) (hb : biN b = g) (hg : isGl sc g = true) (he : GE sx X x (run cf e)) (hes : PA X xs (tEs sx (runs cf es))) (s1 : starE x = false) (s2 : xs.any starE = false) :
    GE sx X (.Call (.Name g p) (x :: xs) [] pos) (run cf (.bi b e es)) := by
  refine ge_def ?_ (fun _ => rfl) (fun _ _ _ z => nomatch z)
  subst hb
  obtain ⟨r, hr, hv⟩ := bi1_ok X x0.calm x0.hu x0.guards b
  obtain ⟨n1, n2, n3⟩ := biN_ne b
  have ha := pa_cons he.pe hes (starEach_cons s1)
  have hpe : PE X (.Call (.Name (biN b) p) (x :: xs) [] pos) (tCB r (tCons (tE sx (run cf e)) (tEs sx (runs cf es)))) := by
    have hbt := boot_bi b
    cases b <;> first
      | exact pe_callB hr (gl_ok x0 hg) (x0.gl _ n3) hbt ha n1 n2 (starEach_cons s1) (noStar s2)
      | exact pe_callTy hr (gl_ok x0 hg) (x0.gl _ n3) hbt ha n1 n2 (starEach_cons s1) (noStar s2)
  refine hpe.pvImp fun σ H Q ⟨sa, ca, env, s, F, d, fr, s', hs, he, hm, q⟩ => ?_
  simp only [run] at hm
  split at hm
  · rename_i dx fx s1 h1
    split at hm
    · rename_i dxs fxs s2 h2
      obtain ⟨z, hz, e⟩ := Option.map_eq_some_iff.mp hm
      simp only [Prod.mk.injEq] at e
      obtain ⟨rfl, rfl, rfl⟩ := e
      refine ⟨sa, ca, env, s, F, dx, fx, s1, hs, he, h1, fun vx H1 as r1 => ?_⟩
      refine ⟨sa, ca, env, s1, F, dxs, fxs, s2, r1.src, he.grow hs r1.g, h2, fun vxs H2 bs r2 => ?_⟩
      refine hv sa ca s2 H2 (vx :: vxs) (dx :: dxs) z (as ++ bs) Q r2.src (.cons (r1.rp.grow r1.src r2.g) r2.rp) hz fun v H' cs g gs rp hf ha => ?_
      refine q v H' cs ⟨r1.g.trans (r2.g.trans g), gs _ r2.src, rp, fun h => ⟨(hf h).1, fun a h' => r1.g.dom a (r2.g.dom a ((hf h).2 a h'))⟩, fun a h' => ?_⟩
      rcases ha a h' with n | n
      · exact .inl (r1.g.dom a (r2.g.dom a n))
      · rcases List.mem_append.mp n with n | n
        · exact r1.al a n
        · exact (r2.al a n).imp_left (r1.g.dom a)
    · cases hm
  · cases hm

/-! ### isinstance -/
def tnD : D → String
  | .none => "NoneType" | .bool _ => "bool" | .int _ => "int" | .str _ => "str" | .list _ => "list" | .tuple _ => "tuple" | .dict _ => "dict"
theorem kit_all (t : Ty) (d : D) (h : ∀ kvs, d ≠ .dict kvs) : kitB (tnD d) (tyN t) = some (tyOf t d) := by
  cases d <;> first | (exact absurd rfl (h _)) | skip
  all_goals cases t <;> (simp only [tnD, tyN, tyOf]; decide +kernel)
theorem Rp.tyOf {K : PySem.W.Frag} {ca : Addr} {H : Hp} {v : V} {d : D} {as : List Addr} (r : Rp ca H v d as) : TyX K H v (.type (tnD d)) ∧ ∀ kvs, d ≠ .dict kvs := by
  cases r with
  | non => exact ⟨.base .non, fun _ z => nomatch z⟩
  | bl b => exact ⟨.base (.bl b), fun _ z => nomatch z⟩
  | int i => exact ⟨.base (.int i), fun _ z => nomatch z⟩
  | str x => exact ⟨.base (.str x), fun _ z => nomatch z⟩
  | lst e _ _ => exact ⟨.base (.lst e), fun _ z => nomatch z⟩
  | tup e _ => exact ⟨.base (.tup e), fun _ z => nomatch z⟩
theorem boot_ty (t : Ty) : bootBuiltins (tyS t) = some (.type (tyN t)) := by cases t <;> decide +kernel
theorem tyS_ne (t : Ty) : tyS t ≠ "__name__" ∧ (tyS t == ("__debug__" : Str)) = false ∧ tyS t ∈ bnames := by cases t <;> decide
theorem boot_isi : bootBuiltins "isinstance" = some (.builtin "isinstance") := by decide +kernel
theorem g_isi {t : Ty} {a : CE} {x : Expr} {p p2 pos : Pos} {g ty : Str} (x0 : XOk T N cf k X sc) (hg : g = "isinstance") (hgl : isGl sc g = true) (ht : ty = tyS t) (htl : isGl sc ty = true) (ha : GE sx X x (run cf a)) (s1 : starE x = false) :
    GE sx X (.Call (.Name g p) [x, .Name ty p2] [] pos) (run cf (.isi t a)) := by
  refine ge_def ?_ (fun _ => rfl) (fun _ _ _ z => nomatch z)
  subst hg ht
  obtain ⟨n1, n2, n3⟩ := tyS_ne t
  have hp : PA X [x, .Name (tyS t) p2] (tCons (tE sx (run cf a)) (tCons (tC (.ty (tyN t))) tNil)) :=
    pa_cons ha.pe (pa_cons (pe_bltn (gl_ok x0 htl) (x0.gl _ n3) (boot_ty t) rfl n1 n2) pa_nil rfl) (starEach_cons s1)
  refine (pe_callB call_isi (gl_ok x0 hgl) (x0.gl _ (by decide)) boot_isi hp (by decide) (by decide) (starEach_cons s1) rfl).pvImp fun σ H Q ⟨sa, ca, env, s, F, d, fr, s', hs, he, hm, q⟩ => ?_
  simp only [run] at hm
  split at hm
  · rename_i dx fx s1 h1
    simp only [Option.some.injEq, Prod.mk.injEq] at hm
    obtain ⟨rfl, rfl, rfl⟩ := hm
    refine ⟨sa, ca, env, s, F, dx, fx, s1, hs, he, h1, fun vx H1 as r1 => ?_⟩
    obtain ⟨tx, nd⟩ := r1.rp.tyOf (K := X.K)
    exact ⟨vx, .ty (tyN t), .type (tnD dx), .type (tyN t), tyOf t dx, rfl, .ty _, tx, kit_ty (kit_all t dx nd), q _ H1 [] (.flat r1.g r1.src (.bl _))⟩
  · cases hm

/-! ### calls of the module's defs -/
theorem pe_callG {f : Addr} {fd : FuncData} {ps : List Str} {sp : Sp} {x : Str} {p pos : Pos} {e : Expr} {es : List Expr} {t : TA} (x0 : XOk T N cf k X sc) (G : FnG X.prog X.w X.K X.mg X.base k f fd ps sp) (hg : Gl X x) (hm : X.mg x = some (.ref f)) (hk : PySem.W.keepIn X.K (.ref f) = true)
    (hb : Binds X.K fd ps []) (ha : PA X (e :: es) t) (n2 : (x == ("__debug__" : Str)) = false) (s1 : starEach (e :: es) X.env = (false, eval e X.env) :: starEach es X.env) (s2 : (backTo pos (starEach es X.env)).any (·.1) = false) :
    PE X (.Call (.Name x p) (e :: es) [] pos) (fun σ H Q => t σ H fun vs H1 => sp vs H1 Q E0) := by
  refine ⟨fun pins s0 σ H Q I0 h0 => wpAny_Call_Name_kw (ld_glob I0 hg hm ?_ n2)⟩
  have args := ha.run pos pins s0 σ H _ I0 h0
  refine PySem.W.callWith_K (h₀ := X.base) I0.mod.kin hk (thn args fun us s1 hq => ?_) s1 s2
  obtain ⟨vs, H1, I1, r, hsp⟩ := hq
  have hl := G.len _ _ _ hsp
  have bnd : BindsTo s1 fd ⟨us, []⟩ (ps.zip us) := by
    have := hb s1 us I1.kIn (by rw [List.append_nil, ← r.length]; exact hl)
    rwa [List.append_nil] at this
  refine ⟨I1.kIn, wpAny_call (codeAny_mono (G.run X.A X.stack s1 H1 ⟨us, []⟩ us vs Q x0.guards x0.room I1.env0 bnd r hsp) fun res s2 hq => ?_)⟩
  match res, hq with
  | .ok (.ret u), hq => exact I1.after hq
  | .ok .next, hq => exact False.elim hq
  | .ok .brk, hq => exact False.elim hq
  | .ok .cont, hq => exact False.elim hq
  | .error _, hq => exact False.elim hq
theorem call_run {f : Nat} {es : CEs} {env : Env} {s s' : Src} {d : D} {fr : Bool} (hm : run cf (.call f es) env s = some (d, fr, s')) : ∃ xs fx s1, runs cf es env s = some (xs, fx, s1) ∧ cf f xs s1 = some (d, s') ∧ fr = frC d := by
  simp only [run] at hm
  split at hm
  · rename_i xs fx s1 h1
    obtain ⟨⟨z, s2⟩, hz, e⟩ := Option.map_eq_some_iff.mp hm
    simp only [Prod.mk.injEq] at e
    obtain ⟨rfl, rfl, rfl⟩ := e
    exact ⟨xs, fx, s1, h1, hz, rfl⟩
  · cases hm
theorem callRes {sa ca : Addr} {H H1 H' : Hp} {env : Env} {F : Nat → List Addr} {xs : List D} {d : D} {fx : Bool} {s1 s' : Src} {vs : List V} {v : V} {as bs : List Addr} (r1 : ResL sa ca H env F xs fx s1 vs H1 as) (g : Grow sa ca H1 H') (x : SrcAt sa ca s' H') (rp : Rp ca H' v d bs) (al : ∀ a ∈ bs, H1 a = none ∨ a ∈ as) :
    Res sa ca H env F d (frC d) s' v H' bs :=
  ⟨r1.g.trans g, x, rp, fun h => fr_nil rp (frC_noL h), fun a ha => (al a ha).elim (fun n => .inl (r1.g.dom a n)) (r1.al a)⟩
/-- a def without the source -/
theorem g_call {f : Nat} {fi : FI} {es : CEs} {x : Expr} {xs : List Expr} {p pos : Pos} {g : Str} (x0 : XOk T N cf k X sc) (hf : T[f]? = some fi) (hn : fi.name = g) (hh : fi.hs = false) (hg : isGl sc g = true) (ho : okName g = true) (hes : PA X (x :: xs) (tEs sx (runs cf es))) (s1 : starE x = false) (s2 : xs.any starE = false)
    (len : ∀ env s ds fr s', runs cf es env s = some (ds, fr, s') → cf f ds s' ≠ none → ds.length = fi.ps.length) :
    GE sx X (.Call (.Name g p) (x :: xs) [] pos) (run cf (.call f es)) := by
  refine ge_def ?_ (fun _ => rfl) (fun _ _ _ z => nomatch z)
  subst hn
  obtain ⟨fa, fd, hm, hk, hb, G⟩ := x0.call f fi hf
  refine (pe_callG x0 G (gl_ok x0 hg) hm hk hb hes (okName_ok ho).1 (starEach_cons s1) (noStar s2)).pvImp fun σ H Q ⟨sa, ca, env, s, F, d, fr, s', hs, he, hm, q⟩ => ?_
  obtain ⟨ds, fx, s1, h1, h2, rfl⟩ := call_run hm
  refine ⟨sa, ca, env, s, F, ds, fx, s1, hs, he, h1, fun vs H1 as r1 => ?_⟩
  refine ⟨sa, ca, ds, as, s1, d, s', vs, r1.src, by rw [hh]; rfl, r1.rp, ?_, h2, fun v H' bs g x rp al => q v H' bs (callRes r1 g x rp al)⟩
  rw [r1.rp.len]
  exact len _ _ _ _ _ h1 (by rw [h2]; intro z; cases z)
/-- a def whose first argument is the source -/
theorem g_callS {f i : Nat} {fi : FI} {es : CEs} {y : Str} {xs : List Expr} {p p2 pos : Pos} {g : Str} (x0 : XOk T N cf k X sc) (hf : T[f]? = some fi) (hn : fi.name = g) (hh : fi.hs = true) (hg : isGl sc g = true) (ho : okName g = true) (hsx : sx = some i) (hy : atN N i y = true) (hv : isVis sc y = true) (hoy : okName y = true)
    (hes : PA X xs (tEs sx (runs cf es))) (s2 : xs.any starE = false) (len : ∀ env s ds fr s', runs cf es env s = some (ds, fr, s') → cf f ds s' ≠ none → ds.length + 1 = fi.ps.length) :
    GE sx X (.Call (.Name g p) (.Name y p2 :: xs) [] pos) (run cf (.call f es)) := by
  refine ge_def ?_ (fun _ => rfl) (fun _ _ _ z => nomatch z)
  subst hn
  obtain ⟨fa, fd, hm, hk, hb, G⟩ := x0.call f fi hf
  have hvar : PE X (.Name y p2) (tVar i) := pe_var (by rw [x0.nm]; exact atN_ok hy) (by rw [x0.scp]; exact isVis_ok hv) (okName_ok hoy).1 (okName_ok hoy).2.1
  refine (pe_callG x0 G (gl_ok x0 hg) hm hk hb (pa_cons hvar hes rfl) (okName_ok ho).1 rfl (noStar s2)).pvImp fun σ H Q ⟨sa, ca, env, s, F, d, fr, s', hs, he, hm, q⟩ => ?_
  obtain ⟨ds, fx, s1, h1, h2, rfl⟩ := call_run hm
  refine ⟨.ref sa, he.sx i hsx, ?_⟩
  refine ⟨sa, ca, env, s, F, ds, fx, s1, hs, he, h1, fun vs H1 as r1 => ?_⟩
  refine ⟨sa, ca, ds, as, s1, d, s', vs, r1.src, by rw [hh]; rfl, r1.rp, ?_, h2, fun v H' bs g x rp al => q v H' bs (callRes r1 g x rp al)⟩
  show vs.length + 1 = _
  rw [r1.rp.len]
  exact len _ _ _ _ _ h1 (by rw [h2]; intro z; cases z)
end
end PV

/-! PV, part H: enumerate and zip over lists and tuples in any mix. -/
namespace PV
open PySem PySem.Spec PyProof.Rows L2

/-- t: a tuple, else a list -/
def SqX (K : PySem.W.Frag) (t : Bool) (H : Hp) (a : Addr) (xs : List V) : Prop := match t with | true => SqT K H a xs | false => SqL K H a xs
def ItX (t : Bool) (h : Heap) (it a : Addr) (i : Nat) : Prop := match t with | true => h.IsTupleIter it a i | false => h.IsListIter it a i
def HdX (t : Bool) (h : Heap) (a : Addr) (its : Array Value) : Prop := match t with | true => h.IsTuple a its | false => h.IsList a its
def obX (t : Bool) (a : Addr) : Obj := match t with | true => { cls := .type "tuple_iterator", data := .fields #[.ref a, .int 0 0] } | false => { cls := .type "list_iterator", data := .fields #[.ref a, .int 0 0] }
theorem drawsX {prog : Program} {w : World} {A : Around} (t : Bool) (hh : A.handled = none) (it a : Addr) (hne : a ≠ it) (its : Array Value) : Draws prog w A it [it, a] its.size (fun i v => its[i]? = some v) (fun i h => ItX t h it a i ∧ HdX t h a its) := by
  cases t with
  | true => exact Draws.tuple hh it a hne its
  | false => exact Draws.list hh it a hne its
theorem beginsX (t : Bool) (a : Addr) (its : Array Value) : Begins (.ref a) (obX t a) fun h => HdX t h a its := by
  cases t with
  | true => exact begins_tuple a its
  | false => exact begins_list a its
theorem startX (t : Bool) {h : Heap} {it a : Addr} (e : h.get? it = some (obX t a)) : ItX t h it a 0 := by
  cases t with
  | true => exact ⟨_, e, rfl, rfl⟩
  | false => exact ⟨_, e, rfl, rfl⟩
theorem ItX.at {t : Bool} {h h' : Heap} {it a : Addr} {i : Nat} (x : ItX t h it a i) (k : ∀ o, h.get? it = some o → h'.get? it = some o) : ItX t h' it a i := by
  cases t with
  | true => exact Heap.IsTupleIter.at x k
  | false => exact Heap.IsListIter.at x k
theorem ItX.obj {t : Bool} {h : Heap} {it a : Addr} {i : Nat} (x : ItX t h it a i) : ∃ o, h.get? it = some o ∧ ∀ v, o.data ≠ .cell v := by
  cases t with
  | true => obtain ⟨o, e, _, d⟩ := x; exact ⟨o, e, fun v q => by rw [d] at q; cases q⟩
  | false => obtain ⟨o, e, _, d⟩ := x; exact ⟨o, e, fun v q => by rw [d] at q; cases q⟩
theorem ItX.lt {t : Bool} {h : Heap} {it a : Addr} {i : Nat} (x : ItX t h it a i) : it < h.objs.size := let ⟨_, e, _⟩ := x.obj; Heap.lt_size e
section
variable {X : Cx} {pins : List (Addr × Obj)} {σ : L2.St} {H : Hp} {s : Shared}
theorem invX {t : Bool} {a : Addr} {xs : List V} (I : Inv X pins σ H s) (h : SqX X.K t H a xs) : ∃ its : List Value, Vals xs its ∧ HdX t s.heap a its.toArray ∧ xs.length ≤ sizeLine ∧ a < s.heap.objs.size := by
  cases t with
  | true =>
    obtain ⟨its, r, p, z⟩ := I.tuple h
    exact ⟨its, r, p, z, p.lt⟩
  | false =>
    obtain ⟨its, r, p, z⟩ := I.list h
    exact ⟨its, r, p.isList, z, p.lt⟩
theorem injX {t : Bool} {a : Addr} {xs ys : List V} (I : Inv X pins σ H s) (h : SqX X.K t H a xs) (h' : SqX X.K t H a ys) : xs = ys := by
  cases t with
  | true => exact I.tuple_inj h h'
  | false => exact I.list_inj h h'
/-- a turn of such an iterator: its new tuple is laid and tracked -/
theorem turned2 {fp : List Addr} {wr : List Addr} {T : Addr} {u u2 : Value} {x y : V} {h' : Heap} {tk : Nat} (I : Inv X pins σ H s) (hf : ∀ b ∈ fp, FpOk X pins H b) (sub : ∀ b ∈ wr, b ∈ fp) (hlt : ∀ b ∈ fp, b < s.heap.objs.size)
    (hk : ∀ b o, b ∉ wr → s.heap.get? b = some o → h'.get? b = some o) (hT : s.heap.objs.size ≤ T) (hTup : h'.IsTuple T #[u, u2]) (rx : RelV x u) (ry : RelV y u2) :
    Inv X pins σ (upd H T (.tup [x, y])) { s with heap := h', toks := tk } ∧ H T = none ∧ ∀ b ∈ fp, upd H T (.tup [x, y]) b = none := by
  have new : ObjOk X.prog X.w (upd H T (.tup [x, y])) h' T (.tup [x, y]) := ⟨by show 2 ≤ sizeLine; decide, [u, u2], .cons rx (.cons ry .nil), hTup⟩
  refine ⟨I.turnedNew (ch := fp) (fun b o hb e => hk b o (fun z => hb (sub b z)) e) hf hT new, I.hok.fresh hT, fun b hb => ?_⟩
  rw [upd_ne (Nat.ne_of_lt (Nat.lt_of_lt_of_le (hlt b hb) hT))]
  exact (hf b hb).1
end

/-! ### enumerate -/
def ItEX (K : PySem.W.Frag) (t : Bool) (a : Addr) : It :=
  ⟨fun i H => ∃ (xs : List V) (x : V), SqX K t H a xs ∧ xs[i]? = some x, fun i H v H' => ∃ T x, v = .ref T ∧ H T = none ∧ H' = upd H T (.tup [.int (i : Nat), x]) ∧ ∀ xs, SqX K t H a xs → xs[i]? = some x, fun i H => ∃ xs : List V, SqX K t H a xs ∧ xs.length = i⟩
theorem turn_enumX {P : Program} {w : World} {K : PySem.W.Frag} {elts : List Expr} {kk : Nat} {tpos : Pos} (t : Bool) (a e it : Addr) (hne : e ≠ it) (hae : a ≠ e) (hai : a ≠ it) :
    Turn P w K (.Tuple elts kk tpos) (ItEX K t a) [e, it] e (fun i h => (∃ old, IsEnum h e it ((0 : Int) + (i : Int)) old) ∧ ItX t h it a i) where
  mem := by simp
  obj := fun i h st b hb => by
    obtain ⟨⟨old, he⟩, hi⟩ := st
    have e' : b = e ∨ b = it := by simpa using hb
    rcases e' with rfl | rfl
    · exact ⟨_, he, fun v q => nomatch q⟩
    · exact hi.obj
  keep := fun i h h' st k => let ⟨⟨old, he⟩, hi⟩ := st; ⟨⟨old, k e (by simp) _ he⟩, hi.at fun o q => k it (by simp) o q⟩
  item := by
    intro X hP hw hK hc i pins s σ H E I hf st hg
    subst hP hw hK
    obtain ⟨⟨old, he⟩, hit⟩ := st
    obtain ⟨xs, x, hq, hx⟩ := hg
    obtain ⟨its, rv, p, hz, hal⟩ := invX I hq
    have hlen := rv.length
    have hi : i < its.toArray.size := by have := (List.getElem?_eq_some_iff.mp hx).1; simpa [← hlen] using this
    have hh : X.A.in1.handled = none := I.ok.hd hc
    have W := GoesN.enumFrom (prog := X.prog) (w := X.w) (A := X.A) (elts := elts) (x1 := kk) (pos := tpos) 0 (drawsX t hh it a hai its.toArray) e hne (by simp [hne, Ne.symm hae]) (by simp)
    have hlt : ∀ b ∈ [e, it], b < s.heap.objs.size := fun b hb => by
      have e' : b = e ∨ b = it := by simpa using hb
      rcases e' with rfl | rfl
      · exact Heap.lt_size he
      · exact hit.lt
    refine W.goes i s _ E hi ⟨⟨old, he⟩, hit, p⟩ fun v h' tk hY st' hk htk => ?_
    obtain ⟨T, t', y, rfl, hT, hy, hTup⟩ := hY
    obtain ⟨u, hu, ru⟩ := rv.get hx
    have ey : y = u := by
      have h1 : its.toArray[i]? = some u := by simpa using hu
      rw [h1] at hy; exact (Option.some.inj hy).symm
    subst ey
    obtain ⟨I1, hn, hf1⟩ := turned2 (x := V.int (i : Nat)) (y := x) I hf (fun b hb => hb) hlt hk hT hTup (by refine ⟨t', ?_⟩; rw [Int.zero_add]) ru
    exact ⟨.ref T, _, I1, rfl, ⟨T, x, rfl, hn, rfl, fun ys hy => by rw [injX I hy hq]; exact hx⟩, ⟨st'.1, st'.2.1⟩, hf1⟩
  done := by
    intro X hP hw hK hc i pins s σ H E I hf st hg
    subst hP hw hK
    obtain ⟨⟨old, he⟩, hit⟩ := st
    obtain ⟨xs, hq, hx⟩ := hg
    obtain ⟨its, rv, p, hz, hal⟩ := invX I hq
    have hlen := rv.length
    subst hx
    have hh : X.A.in1.handled = none := I.ok.hd hc
    have W := GoesN.enumFrom (prog := X.prog) (w := X.w) (A := X.A) (elts := elts) (x1 := kk) (pos := tpos) 0 (drawsX t hh it a hai its.toArray) e hne (by simp [hne, Ne.symm hae]) (by simp)
    have es : its.toArray.size = xs.length := by simp [hlen]
    rw [← es] at he hit
    refine W.stops s _ E ⟨⟨old, he⟩, hit, p⟩ fun h' tk hk htk => ?_
    exact I.turnedL (ch := [e, it]) (fun b o hb q => hk b o hb q) hf
  self := fun A i s Q E st h => let ⟨⟨_, he⟩, _⟩ := st; wpAny_pyIter_enum he h
theorem meets_enum1 {v : Value} {o : Obj} {Hd : Heap → Prop} (B : Begins v o Hd) :
    Meets (Builtin.«enumerate.__new__» ⟨[.type "enumerate", v], []⟩) (fun _ R s => Hd s.heap ∧
      R (.ok (.ret (.ref (s.heap.push o).objs.size))) { s with heap := (s.heap.push o).push { cls := .type "enumerate", data := .fields #[.none, .bool false, .ref s.heap.objs.size, rawInt 0, .none, .none] } }) :=
  .of_wp fun prog w A R s hq => by
    obtain ⟨hp, gg, dd, tk, os⟩ := s
    obtain ⟨h1, h⟩ := hq
    have hsub := sub_enumerate
    have qI : ∀ {A' : Around} {E : Value → Shared → Prop} {Q : Value → Shared → Prop}, Q (.ref hp.objs.size) ⟨hp.push o, gg, dd, tk, os⟩ → wpAny (model prog w) A' (pyIter v) Q E ⟨hp, gg, dd, tk, os⟩ :=
      fun q0 => B.iter prog w _ _ ⟨hp, gg, dd, tk, os⟩ _ h1 q0
    wp_walk using qI
    refine wpAny_stack_any fun st => wpAny_pure ?_
    split
    · rename_i c _ _ _ _ _
      cases (c == Value.type "enumerate")
      · wp_walk using qI
        exact ⟨_, rfl, h⟩
      · wp_walk using qI
        exact ⟨_, rfl, h⟩
    · wp_walk using qI
      exact ⟨_, rfl, h⟩
theorem enum1_begins {prog : Program} {w : World} {A : Around} {E : Value → Shared → Prop} {s : Shared} {v : Value} {o : Obj} {Hd : Heap → Prop} {Q : Value → Shared → Prop} (B : Begins v o Hd) (h1 : Hd s.heap)
    (h : ∀ h', IsEnum h' (s.heap.objs.size + 1) s.heap.objs.size 0 .none → h'.get? s.heap.objs.size = some o → (∀ b u, s.heap.get? b = some u → h'.get? b = some u) → Q (.ref (s.heap.objs.size + 1)) { s with heap := h' }) :
    wpAny (model prog w) A (call (.type "enumerate") [v]) Q E s := by
  refine callType_new F.called_enumerate (by decide) (F.typeCall_enumerate_1 _) (F.newCall_enumerate_1 _) (fun obj => F.args_object_init_2 obj _) F.entry_enumerate_new (meets_enum1 B) ⟨h1, ?_⟩
  have hz : (s.heap.push o).objs.size = s.heap.objs.size + 1 := Heap.size_push ..
  have he := Heap.get?_push_size (s.heap.push o) (o := { cls := .type "enumerate", data := .fields #[.none, .bool false, .ref s.heap.objs.size, rawInt 0, .none, .none] }) rfl
  rw [hz] at he
  show _ ∧ _
  rw [hz]
  exact ⟨⟨_, he, rfl⟩, h _ he (Heap.get?_push_of_some _ (Heap.get?_push_size _ B.free)) fun b u x => Heap.get?_push_of_some _ (Heap.get?_push_of_some _ x)⟩
def iEnumX (K : PySem.W.Frag) (ta : TA) : TI := fun σ H R => ta σ H fun vs H1 => ∃ t a xs, vs = [.ref a] ∧ SqX K t H1 a xs ∧ R (ItEX K t a) H1
theorem pi_enumX {X : Cx} {e : Expr} {ta : TA} {p pos tpos : Pos} {elts : List Expr} {kk : Nat} (hg : Gl X "enumerate") (hm : X.mg "enumerate" = none) (ha : PA X [e] ta) (hs : starEach [e] X.env = [(false, eval e X.env)]) :
    PI X (.Tuple elts kk tpos) (.Call (.Name "enumerate" p) [e] [] pos) (iEnumX X.K ta) := by
  refine ⟨fun pins s σ H R I h => ?_⟩
  refine Call_ (ld_blt I hg hm boot_enumerate (PyProof.Rows.callWith_type1 (thn (ha.run pos pins s σ H _ I h) fun us s1 hq => ?_) hs rfl))
  obtain ⟨vs, H1, I1, r1, t, a, xs, rfl, hq, q⟩ := hq
  obtain ⟨u, rfl, ru⟩ := vals1 r1
  cases ru
  obtain ⟨its, rv, p', hz, hal⟩ := invX I1 hq
  refine enum1_begins (beginsX t a its.toArray) p' fun h' he hit hk => wpAny_pyIter_enum he ?_
  have ha1 : a ≠ s1.heap.objs.size + 1 := Nat.ne_of_lt (Nat.lt_succ_of_lt hal)
  have ha0 : a ≠ s1.heap.objs.size := Nat.ne_of_lt hal
  refine ⟨s1.heap.objs.size + 1, [s1.heap.objs.size + 1, s1.heap.objs.size], _, _, H1, rfl, I1.kept (t' := s1.toks) hk, turn_enumX t a (s1.heap.objs.size + 1) s1.heap.objs.size (Nat.succ_ne_self _) ha1 ha0, ⟨⟨.none, he⟩, startX t hit⟩, fun b hb => ?_, q⟩
  have e' : b = s1.heap.objs.size + 1 ∨ b = s1.heap.objs.size := by simpa using hb
  have hle : s1.heap.objs.size ≤ b := by rcases e' with z | z <;> rw [z] <;> first | exact Nat.le_refl _ | exact Nat.le_add_right _ _
  exact I1.fpOk hle (I1.hok.fresh hle)

/-! ### zip -/
def ItZX (K : PySem.W.Frag) (t u : Bool) (a b : Addr) : It :=
  ⟨fun i H => ∃ (xs ys : List V) (x y : V), SqX K t H a xs ∧ SqX K u H b ys ∧ xs[i]? = some x ∧ ys[i]? = some y,
    fun i H v H' => ∃ T x y, v = .ref T ∧ H T = none ∧ H' = upd H T (.tup [x, y]) ∧ (∀ xs, SqX K t H a xs → xs[i]? = some x) ∧ ∀ ys, SqX K u H b ys → ys[i]? = some y,
    fun i H => ∃ xs ys : List V, SqX K t H a xs ∧ SqX K u H b ys ∧ min xs.length ys.length = i⟩
theorem zip_sub {c z TI TO i1 i2 : Addr} (h : c ∈ [z, TO, i1, i2]) : c ∈ [z, TI, TO, i1, i2] := by
  simp only [List.mem_cons, List.not_mem_nil, or_false] at h ⊢
  rcases h with h | h | h | h
  · exact .inl h
  · exact .inr (.inr (.inl h))
  · exact .inr (.inr (.inr (.inl h)))
  · exact .inr (.inr (.inr (.inr h)))
theorem turn_zipX {P : Program} {w : World} {K : PySem.W.Frag} {elts : List Expr} {kk : Nat} {tpos : Pos} (t u : Bool) {a b z TI TO i1 i2 : Addr} (S : ZipSep2 z TI TO i1 i2 [i1, a] [i2, b]) (ha : a ≠ i1) (hb : b ≠ i2) :
    Turn P w K (.Tuple elts kk tpos) (ItZX K t u a b) [z, TI, TO, i1, i2] z (fun i h => IsZip h z TI TO .none ∧ IsTupOf2 h TI (.ref i1) (.ref i2) ∧ (∃ x y, IsTupOf2 h TO x y) ∧ ItX t h i1 a i ∧ ItX u h i2 b i) where
  mem := by simp
  obj := fun i h st c hc => by
    obtain ⟨hz, hTI, ⟨x, y, hTO⟩, h1, h2⟩ := st
    have e' : c = z ∨ c = TI ∨ c = TO ∨ c = i1 ∨ c = i2 := by simpa using hc
    rcases e' with rfl | rfl | rfl | rfl | rfl
    · exact ⟨_, hz, fun v q => nomatch q⟩
    · exact ⟨_, hTI, fun v q => nomatch q⟩
    · exact ⟨_, hTO, fun v q => nomatch q⟩
    · exact h1.obj
    · exact h2.obj
  keep := fun i h h' st k => by
    obtain ⟨hz, hTI, ⟨x, y, hTO⟩, h1, h2⟩ := st
    exact ⟨k z (by simp) _ hz, k TI (by simp) _ hTI, ⟨x, y, k TO (by simp) _ hTO⟩, h1.at fun o q => k i1 (by simp) o q, h2.at fun o q => k i2 (by simp) o q⟩
  item := by
    intro X hP hw hK hc i pins s σ H E I hf st hg
    subst hP hw hK
    obtain ⟨hz, hTI, hTO, h1, h2⟩ := st
    obtain ⟨xs, ys, x, y, hqx, hqy, hx, hy⟩ := hg
    obtain ⟨its, rv, p, _, _⟩ := invX I hqx
    obtain ⟨its2, rv2, p2, _, _⟩ := invX I hqy
    have hh : X.A.in1.handled = none := I.ok.hd hc
    have W := GoesN.zip2 (prog := X.prog) (w := X.w) (A := X.A) (elts := elts) (x1 := kk) (pos := tpos) S (drawsX t hh i1 a ha its.toArray) (drawsX u hh i2 b hb its2.toArray)
    have l1 := rv.length
    have l2 := rv2.length
    have hi : i < min its.toArray.size its2.toArray.size := by
      have q1 := (List.getElem?_eq_some_iff.mp hx).1
      have q2 := (List.getElem?_eq_some_iff.mp hy).1
      simp only [List.size_toArray]
      omega
    have hlt : ∀ c ∈ [z, TI, TO, i1, i2], c < s.heap.objs.size := fun c hcm => by
      have e' : c = z ∨ c = TI ∨ c = TO ∨ c = i1 ∨ c = i2 := by simpa using hcm
      obtain ⟨_, _, hTO'⟩ := hTO
      rcases e' with rfl | rfl | rfl | rfl | rfl
      · exact Heap.lt_size hz
      · exact Heap.lt_size hTI
      · exact Heap.lt_size hTO'
      · exact h1.lt
      · exact h2.lt
    refine W.goes i s _ E hi ⟨hz, hTI, hTO, ⟨h1, p⟩, ⟨h2, p2⟩⟩ fun v h' tk hY st' hk htk => ?_
    obtain ⟨T, x', y', rfl, hT, hx', hy', hTup⟩ := hY
    obtain ⟨u1, hu1, ru1⟩ := rv.get hx
    obtain ⟨u2, hu2, ru2⟩ := rv2.get hy
    have e1 : x' = u1 := by
      have q1 : its.toArray[i]? = some u1 := by simpa using hu1
      rw [q1] at hx'; exact (Option.some.inj hx').symm
    have e2 : y' = u2 := by
      have q1 : its2.toArray[i]? = some u2 := by simpa using hu2
      rw [q1] at hy'; exact (Option.some.inj hy').symm
    subst e1 e2
    obtain ⟨I1, hn, hf1⟩ := turned2 (wr := [z, TO, i1, i2]) (x := x) (y := y) I hf (fun c hcm => zip_sub hcm) hlt hk hT hTup ru1 ru2
    exact ⟨.ref T, _, I1, rfl, ⟨T, x, y, rfl, hn, rfl, fun l hl => by rw [injX I hl hqx]; exact hx, fun l hl => by rw [injX I hl hqy]; exact hy⟩, ⟨st'.1, st'.2.1, st'.2.2.1, st'.2.2.2.1.1, st'.2.2.2.2.1⟩, hf1⟩
  done := by
    intro X hP hw hK hc i pins s σ H E I hf st hg
    subst hP hw hK
    obtain ⟨hz, hTI, hTO, h1, h2⟩ := st
    obtain ⟨xs, ys, hqx, hqy, hend⟩ := hg
    obtain ⟨its, rv, p, _, _⟩ := invX I hqx
    obtain ⟨its2, rv2, p2, _, _⟩ := invX I hqy
    have hh : X.A.in1.handled = none := I.ok.hd hc
    have W := GoesN.zip2 (prog := X.prog) (w := X.w) (A := X.A) (elts := elts) (x1 := kk) (pos := tpos) S (drawsX t hh i1 a ha its.toArray) (drawsX u hh i2 b hb its2.toArray)
    have l1 := rv.length
    have l2 := rv2.length
    have es : i = min its.toArray.size its2.toArray.size := by
      simp only [List.size_toArray]
      omega
    subst es
    refine W.stops s _ E ⟨hz, hTI, hTO, ⟨h1, p⟩, ⟨h2, p2⟩⟩ fun h' tk hk htk => ?_
    exact I.turnedL (ch := [z, TI, TO, i1, i2]) (fun c o hb q => hk c o (fun q' => hb (zip_sub q')) q) hf
  self := fun A i s Q E st h => wpAny_pyIter_zip st.1 h
def iZipX (K : PySem.W.Frag) (ta : TA) : TI := fun σ H R => ta σ H fun vs H1 => ∃ t u a b xs ys, vs = [.ref a, .ref b] ∧ SqX K t H1 a xs ∧ SqX K u H1 b ys ∧ R (ItZX K t u a b) H1
theorem pi_zipX {X : Cx} {e e2 : Expr} {ta : TA} {p pos tpos : Pos} {elts : List Expr} {kk : Nat} (hg : Gl X "zip") (hm : X.mg "zip" = none) (ha : PA X [e, e2] ta)
    (hs : starEach [e, e2] X.env = (false, eval e X.env) :: starEach [e2] X.env) (hpl : (backTo pos (starEach [e2] X.env)).any (·.1) = false) :
    PI X (.Tuple elts kk tpos) (.Call (.Name "zip" p) [e, e2] [] pos) (iZipX X.K ta) := by
  refine ⟨fun pins s σ H R I h => ?_⟩
  refine Call_ (ld_blt I hg hm PyProof.Rows.boot_zip (PyProof.Rows.callWith_type1 (thn (ha.run pos pins s σ H _ I h) fun us s1 hq => ?_) hs hpl))
  obtain ⟨vs, H1, I1, r1, t, u, a, b, xs, ys, rfl, hqx, hqy, q⟩ := hq
  obtain ⟨v1, v2, rfl, ru1, ru2⟩ := vals2 r1
  cases ru1
  cases ru2
  obtain ⟨its, rv, p1, _, la⟩ := invX I1 hqx
  obtain ⟨its2, rv2, p2, _, lb⟩ := invX I1 hqy
  refine zip_begins2 (beginsX t a its.toArray) (beginsX u b its2.toArray) p1 p2 fun h' hz hTI hTO h1 h2 hsz hk => wpAny_pyIter_zip hz ?_
  have S : ZipSep2 (s1.heap.objs.size + 4) (s1.heap.objs.size + 2) (s1.heap.objs.size + 3) s1.heap.objs.size (s1.heap.objs.size + 1) [s1.heap.objs.size, a] [s1.heap.objs.size + 1, b] :=
    zip_sep2 (fun c hc => by rw [List.mem_singleton.mp hc]; exact la) (fun c hc => by rw [List.mem_singleton.mp hc]; exact lb)
  refine ⟨s1.heap.objs.size + 4, [s1.heap.objs.size + 4, s1.heap.objs.size + 2, s1.heap.objs.size + 3, s1.heap.objs.size, s1.heap.objs.size + 1], _, _, H1, rfl, I1.kept (t' := s1.toks) hk,
    turn_zipX t u S (Nat.ne_of_lt la) (Nat.ne_of_lt (Nat.lt_succ_of_lt lb)), ⟨hz, hTI, ⟨_, _, hTO⟩, startX t h1, startX u h2⟩, fun c hcm => ?_, q⟩
  have hle : s1.heap.objs.size ≤ c := by
    have e' : c = s1.heap.objs.size + 4 ∨ c = s1.heap.objs.size + 2 ∨ c = s1.heap.objs.size + 3 ∨ c = s1.heap.objs.size ∨ c = s1.heap.objs.size + 1 := by simpa using hcm
    rcases e' with z | z | z | z | z <;> rw [z] <;> first | exact Nat.le_refl _ | exact Nat.le_add_right _ _
  exact I1.fpOk hle (I1.hok.fresh hle)
end PV

/-! PV, part H2: zip(xs, ys, strict=True) over lists and tuples in any mix, of one length. -/
namespace PV
open PySem PySem.Spec PyProof.Rows L2
open PySem.Sem (wp)

/-! ### a strict zip's cell -/
abbrev SZip (h : Heap) (z TI TO : Addr) (f : Value) : Prop := h.get? z = some { cls := .type "zip", dict := none, data := .fields #[f, .bool false, .bool true, .ref TI, .ref TO], slots := #[] }
section
variable {prog : Program} {w : World} {A : Around} {E : Value → Shared → Prop} {it : Addr} {fp : List Addr} {n i : Nat} {P : Nat → Value → Prop} {St : Nat → Heap → Prop}
/-- the next one, told as some .. -/
theorem more_item {s : Shared} {Q : Option Value → Shared → Prop} (D : Draws prog w A it fp n P St) (hi : i < n) (st : St i s.heap)
    (hQ : ∀ x h' tk, P i x → St (i + 1) h' → Heap.SameBut it s.heap h' → Q (some x) { s with heap := h', toks := tk }) : wpAny (model prog w) A (Builtin.SmallTypes.nextOrEnd (.ref it)) Q E s := by
  unfold Builtin.SmallTypes.nextOrEnd
  exact wpAny_bind (wpAny_attempt (D.item i s _ _ hi st fun x h' tk a b c => wpAny_pure (hQ x h' tk a b c)))
/-- .. or that there is none -/
theorem more_done {s : Shared} {Q : Option Value → Shared → Prop} (D : Draws prog w A it fp n P St) (st : St n s.heap)
    (hQ : ∀ h', Heap.ExtBut it s.heap h' → Q none { s with heap := h' }) : wpAny (model prog w) A (Builtin.SmallTypes.nextOrEnd (.ref it)) Q E s := by
  unfold Builtin.SmallTypes.nextOrEnd
  refine wpAny_bind (wpAny_attempt (D.done s _ _ st fun h' e k he => ?_))
  obtain ⟨o, ho, hc⟩ := he
  exact wpAny_bind (wpAny_isInstance (T := "StopIteration") (b := true) ⟨o, ho, hc⟩ isSubtype_stop (wpAny_pure (hQ h' k)))
end
theorem Draws.past {prog : Program} {w : World} {A : Around} {it : Addr} {fp : List Addr} {n : Nat} {P : Nat → Value → Prop} {St : Nat → Heap → Prop} (D : Draws prog w A it fp n P St) {i : Nat} {h h' : Heap} {x : Addr} (st : St i h) (hs : Heap.ExtBut x h h') (hx : x ∉ fp) : St i h' :=
  D.frame i h h' st fun b hb o e => hs b o (fun q => hx (q ▸ hb)) e
theorem wp_ifN {M : Model} {A : Around} {α : Type} {Q : α → Shared → Prop} {E : Value → Shared → Prop} {s : Shared} {c : Prop} [Decidable c] {t e : Sem α} (h : ¬c) (w : wpAny M A e Q E s) : wpAny M A (if c then t else e) Q E s := by rw [if_neg h]; exact w
theorem wp_ifP {M : Model} {A : Around} {α : Type} {Q : α → Shared → Prop} {E : Value → Shared → Prop} {s : Shared} {c : Prop} [Decidable c] {t e : Sem α} (h : c) (w : wpAny M A t Q E s) : wpAny M A (if c then t else e) Q E s := by rw [if_pos h]; exact w
/-- an end told by a new exception -/
theorem stop_end {prog : Program} {w : World} {A : Around} {E : Value → Shared → Prop} {α : Type} {Q : α → Shared → Prop} {s : Shared} (hh : A.handled = none)
    (hE : ∀ h' e, (∀ c o, s.heap.get? c = some o → h'.get? c = some o) → (∃ o, h'.get? e = some o ∧ o.cls = .type "StopIteration") → E (.ref e) { s with heap := h' }) :
    wpAny (model prog w) A (Builtin.SmallTypes.stopIteration : Sem α) Q E s := by
  unfold Builtin.SmallTypes.stopIteration
  refine wpAny_bind ?_
  simp only [newExc, newTuple]
  refine wpAny_bind (wpAny_newObj_type ?_ (by size_fits))
  refine wpAny_bind (m := firstArgMember _ _) (wpAny_of_eq (a := Value.none) (by first | rfl | (simp only [firstArgMember]; rfl)) ?_)
  refine wpAny_newObj_type ?_ (by size_fits)
  simp only [raiseNew]
  refine wpAny_bind (wpAny_handled ?_)
  first | rw [show A.in1.handled = none from hh] | rw [hh]
  refine wpAny_bind (wpAny_pure (wpAny_throw ?_))
  exact hE _ _ (fun c o e => Heap.get?_push_of_some _ (Heap.get?_push_of_some _ e)) ⟨_, Heap.get?_push_size _ rfl, rfl⟩

section
variable {prog : Program} {w : World} {A : Around} {E : Value → Shared → Prop} {z TI TO i1 i2 : Addr} {fp1 fp2 : List Addr} {n1 n2 i : Nat} {P1 P2 : Nat → Value → Prop} {St1 St2 : Nat → Heap → Prop} {a1 a2 : Value}
/-- a turn: both are drawn, a new pair is handed out -/
theorem szip_item {s : Shared} {Q : Value → Shared → Prop} (S : ZipSep2 z TI TO i1 i2 fp1 fp2) (D1 : Draws prog w A i1 fp1 n1 P1 St1) (D2 : Draws prog w A i2 fp2 n2 P2 St2)
    (hz : SZip s.heap z TI TO .none) (hTI : IsTupOf2 s.heap TI (.ref i1) (.ref i2)) (hTO : IsTupOf2 s.heap TO a1 a2) (st1 : St1 i s.heap) (st2 : St2 i s.heap) (hi1 : i < n1) (hi2 : i < n2)
    (hQ : ∀ x y h' tk, P1 i x → P2 i y → SZip h' z TI TO (rawInt s.heap.objs.size) → IsTupOf2 h' TO x y → St1 (i + 1) h' → St2 (i + 1) h' → IsTupOf2 h' s.heap.objs.size x y →
      (∀ c o, c ≠ z → c ≠ TO → c ≠ i1 → c ≠ i2 → s.heap.get? c = some o → h'.get? c = some o) → Q (.ref s.heap.objs.size) { s with heap := h', toks := tk }) :
    wpAny (model prog w) A (Builtin.«zip.__next__» ⟨[.ref z], []⟩) (fun fin s' => ∃ v, fin = .done (.ret v) ∧ Q v s') E s := by
  obtain ⟨b0, gl, di, tk, ou⟩ := s
  show wpAny _ _ (field (.ref z) 2 >>= _) _ _ _
  refine wpAny_bind (wpAny_field hz rfl (x := .bool true) rfl ?_)
  show wpAny _ _ (field (.ref z) 3 >>= _) _ _ _
  refine wpAny_bind (wpAny_field hz rfl (x := .ref TI) rfl (wpAny_bind (wpAny_seqItems hTI rfl ?_)))
  show wpAny _ _ (Builtin.SmallTypes.ownedTupleIsFree (.ref z) >>= _) _ _ _
  unfold Builtin.SmallTypes.ownedTupleIsFree
  refine wpAny_bind (wpAny_bind (wpAny_field hz rfl (x := .none) rfl (wpAny_pure ?_)))
  simp only [if_true]
  refine wpAny_bind (wpAny_rule (wpAny_bind (wpAny_field hz rfl (x := .ref TO) rfl (wpAny_bind (wpAny_setField_rec hz (by simp) fun b1 z1 k1 => ?_)))))
  replace z1 : SZip b1 z TI TO .ellipsis := z1
  replace k1 : Heap.SameBut z b0 b1 := k1
  refine wpAny_bind ?_
  simp only [List.zipIdx_cons, List.zipIdx_nil, List.forIn_cons, List.forIn_nil]
  refine wpAny_bind (wpAny_bind (wpAny_onRaise ?_))
  show wpAny _ _ (Builtin.SmallTypes.nextOrEnd (.ref i1)) _ _ ⟨b1, gl, di, tk, ou⟩
  refine more_item D1 hi1 (D1.over st1 k1 S.zf1) fun x b2 tk2 px w1 k2 => ?_
  replace k2 : Heap.SameBut i1 b1 b2 := k2
  have o2 : IsTupOf2 b2 TO a1 a2 := k2.extBut _ _ S.Ti1 (k1.extBut _ _ S.TOz hTO)
  refine wpAny_bind (wpAny_seqItems (s := ⟨b2, gl, di, tk2, ou⟩) o2 rfl (wpAny_bind (updateSeq_IsTupOf2 (s := ⟨b2, gl, di, tk2, ou⟩) o2 fun b3 o3 k3 => ?_)))
  replace o3 : IsTupOf2 b3 TO x a2 := o3
  replace k3 : Heap.SameBut TO b2 b3 := k3
  refine wpAny_bind (wpAny_letGo (wpAny_pure (wpAny_bind (wpAny_bind (wpAny_onRaise ?_)))))
  show wpAny _ _ (Builtin.SmallTypes.nextOrEnd (.ref i2)) _ _ ⟨b3, gl, di, tk2, ou⟩
  refine more_item D2 hi2 (D2.over (D2.over (D2.over st2 k1 S.zf2) k2 S.sep1_2) k3 S.Tf2) fun y b4 tk4 py w2 k4 => ?_
  replace k4 : Heap.SameBut i2 b3 b4 := k4
  have o4 : IsTupOf2 b4 TO x a2 := k4.extBut _ _ S.Ti2 o3
  refine wpAny_bind (wpAny_seqItems (s := ⟨b4, gl, di, tk4, ou⟩) o4 rfl (wpAny_bind (updateSeq_IsTupOf2 (s := ⟨b4, gl, di, tk4, ou⟩) o4 fun b5 o5 k5 => ?_)))
  replace o5 : IsTupOf2 b5 TO x y := o5
  replace k5 : Heap.SameBut TO b4 b5 := k5
  refine wpAny_bind (wpAny_letGo (wpAny_pure (wpAny_pure (wpAny_bind (wpAny_seqItems (s := ⟨b5, gl, di, tk4, ou⟩) o5 rfl (wpAny_bind (wpAny_newTuple ?_)))))))
  have sz : b5.objs.size = b0.objs.size := by rw [k5.1, k4.1, k3.1, k2.1, k1.1]
  have z5 : SZip b5 z TI TO .ellipsis := k5.extBut _ _ S.TOz.symm (k4.extBut _ _ S.zi2 (k3.extBut _ _ S.TOz.symm (k2.extBut _ _ S.zi1 z1)))
  have kk : ∀ c o, c ≠ z → c ≠ TO → c ≠ i1 → c ≠ i2 → b0.get? c = some o → b5.get? c = some o := fun c o c1 c2 c3 c4 e =>
    k5.extBut _ _ c2 (k4.extBut _ _ c4 (k3.extBut _ _ c2 (k2.extBut _ _ c3 (k1.extBut _ _ c1 e))))
  have u1 : St1 (i + 1) b5 := D1.over (D1.over (D1.over w1 k3 S.Tf1) k4 S.sep2_1) k5 S.Tf1
  have u2 : St2 (i + 1) b5 := D2.over w2 k5 S.Tf2
  have zl : z < b5.objs.size := Heap.lt_size z5
  show wpAny _ _ (Builtin.SmallTypes.ownedTupleHandOut (.ref z) (.ref b5.objs.size) >>= _) _ _ ⟨b5.push { cls := .type "tuple", data := .seq #[x, y] }, gl, di, tk4, ou⟩
  unfold Builtin.SmallTypes.ownedTupleHandOut
  have z6 : SZip (b5.push { cls := .type "tuple", data := .seq #[x, y] }) z TI TO .ellipsis := Heap.get?_push_of_some _ z5
  refine wpAny_bind (wpAny_bind (wpAny_setField_rec z6 (by simp) fun b7 z7 k7 => ?_))
  replace z7 : SZip b7 z TI TO (rawInt b5.objs.size) := z7
  refine wpAny_setField_rec z7 (by simp) fun b8 z8 k8 => ?_
  replace z8 : SZip b8 z TI TO (rawInt b5.objs.size) := z8
  replace k7 : Heap.SameBut z (b5.push { cls := .type "tuple", data := .seq #[x, y] }) b7 := k7
  replace k8 : Heap.SameBut z b7 b8 := k8
  have up : ∀ c o, c ≠ z → b5.get? c = some o → b8.get? c = some o := fun c o c1 e => k8.extBut _ _ c1 (k7.extBut _ _ c1 (Heap.get?_push_of_some _ e))
  have t8 : IsTupOf2 b8 b5.objs.size x y := k8.extBut _ _ (Nat.ne_of_gt zl) (k7.extBut _ _ (Nat.ne_of_gt zl) (Heap.get?_push_size _ rfl))
  rw [sz] at z8 t8
  refine wpAny_pure ⟨_, rfl, ?_⟩
  show Q (.ref b5.objs.size) ⟨b8, gl, di, tk4, ou⟩
  rw [sz]
  exact hQ x y b8 tk4 px py z8 (up _ _ S.TOz o5) (D1.frame _ _ _ u1 fun b hb o e => up b o (fun q => S.zf1 (q ▸ hb)) e) (D2.frame _ _ _ u2 fun b hb o e => up b o (fun q => S.zf2 (q ▸ hb)) e) t8 fun c o c1 c2 c3 c4 e => up c o c1 (kk c o c1 c2 c3 c4 e)
/-- both at their end -/
theorem szip_done {s : Shared} {Q : Fin → Shared → Prop} (hh : A.handled = none) (S : ZipSep2 z TI TO i1 i2 fp1 fp2) (D1 : Draws prog w A i1 fp1 n1 P1 St1) (D2 : Draws prog w A i2 fp2 n2 P2 St2)
    (hz : SZip s.heap z TI TO .none) (hTI : IsTupOf2 s.heap TI (.ref i1) (.ref i2)) (st1 : St1 n1 s.heap) (st2 : St2 n2 s.heap) {a1 a2 : Value} (hTO : IsTupOf2 s.heap TO a1 a2)
    (hE : ∀ h' e, (∀ c o, c ≠ z → c ≠ TO → c ≠ i1 → c ≠ i2 → s.heap.get? c = some o → h'.get? c = some o) → (∃ o, h'.get? e = some o ∧ o.cls = .type "StopIteration") → E (.ref e) { s with heap := h' }) :
    wpAny (model prog w) A (Builtin.«zip.__next__» ⟨[.ref z], []⟩) Q E s := by
  obtain ⟨b0, gl, di, tk, ou⟩ := s
  show wpAny _ _ (field (.ref z) 2 >>= _) _ _ _
  refine wpAny_bind (wpAny_field hz rfl (x := .bool true) rfl ?_)
  show wpAny _ _ (field (.ref z) 3 >>= _) _ _ _
  refine wpAny_bind (wpAny_field hz rfl (x := .ref TI) rfl (wpAny_bind (wpAny_seqItems hTI rfl ?_)))
  show wpAny _ _ (Builtin.SmallTypes.ownedTupleIsFree (.ref z) >>= _) _ _ _
  unfold Builtin.SmallTypes.ownedTupleIsFree
  refine wpAny_bind (wpAny_bind (wpAny_field hz rfl (x := .none) rfl (wpAny_pure ?_)))
  simp only [if_true]
  refine wpAny_bind (wpAny_rule (wpAny_bind (wpAny_field hz rfl (x := .ref TO) rfl (wpAny_bind (wpAny_setField_rec hz (by simp) fun b1 z1 k1 => ?_)))))
  replace z1 : SZip b1 z TI TO .ellipsis := z1
  replace k1 : Heap.SameBut z b0 b1 := k1
  refine wpAny_bind ?_
  simp only [List.zipIdx_cons, List.zipIdx_nil, List.forIn_cons, List.forIn_nil]
  refine wpAny_bind (wpAny_bind (wpAny_onRaise ?_))
  show wpAny _ _ (Builtin.SmallTypes.nextOrEnd (.ref i1)) _ _ ⟨b1, gl, di, tk, ou⟩
  refine more_done D1 (D1.over st1 k1 S.zf1) fun b2 k2 => ?_
  replace k2 : Heap.ExtBut i1 b1 b2 := k2
  have z2 : SZip b2 z TI TO .ellipsis := k2 _ _ S.zi1 z1
  refine wpAny_bind (wpAny_setField_rec (s := ⟨b2, gl, di, tk, ou⟩) z2 (by simp) fun b3 z3 k3 => ?_)
  replace k3 : Heap.SameBut z b2 b3 := k3
  refine wpAny_bind ?_
  refine wpAny_bind ?_
  simp only [List.drop_succ_cons, List.drop_zero, List.zipIdx_cons, List.zipIdx_nil, List.forIn_cons, List.forIn_nil]
  refine wpAny_bind (wpAny_bind ?_)
  show wpAny _ _ _ _ _ ⟨b3, gl, di, tk, ou⟩
  refine more_done D2 (Draws.over D2 (Draws.past D2 (D2.over st2 k1 S.zf2) k2 S.sep1_2) k3 S.zf2) fun b4 k4 => ?_
  replace k4 : Heap.ExtBut i2 b3 b4 := k4
  refine wp_ifN (by simp) (wpAny_pure (wpAny_pure ?_))
  refine wpAny_bind (wpAny_rule ?_)
  refine stop_end hh fun b5 e k5 he => ?_
  exact hE b5 e (fun c o c1 c2 c3 c4 x => k5 c o (k4 c o c4 (k3.extBut c o c1 (k2 c o c3 (k1.extBut c o c1 x))))) he
theorem szip_next {s : Shared} {Q : Option Value → Shared → Prop} (S : ZipSep2 z TI TO i1 i2 fp1 fp2) (D1 : Draws prog w A.in1 i1 fp1 n1 P1 St1) (D2 : Draws prog w A.in1 i2 fp2 n2 P2 St2)
    (hz : SZip s.heap z TI TO .none) (hTI : IsTupOf2 s.heap TI (.ref i1) (.ref i2)) (hTO : IsTupOf2 s.heap TO a1 a2) (st1 : St1 i s.heap) (st2 : St2 i s.heap) (hi1 : i < n1) (hi2 : i < n2)
    (hQ : ∀ x y h' tk, P1 i x → P2 i y → SZip h' z TI TO (rawInt s.heap.objs.size) → IsTupOf2 h' TO x y → St1 (i + 1) h' → St2 (i + 1) h' → IsTupOf2 h' s.heap.objs.size x y →
      (∀ c o, c ≠ z → c ≠ TO → c ≠ i1 → c ≠ i2 → s.heap.get? c = some o → h'.get? c = some o) → Q (some (.ref s.heap.objs.size)) { s with heap := h', toks := tk }) : wpAny (model prog w) A (pyNext (.ref z)) Q E s := by
  have ty : s.TypeIs (.ref z) "zip" := ⟨_, hz, rfl⟩
  unfold pyNext
  refine wpAny_bind (wpAny_attempt (wpAny_callSpecial?_slot (name := Str.ofString "__next__") ty F.slot_zip_next (wpAny_call_entry F.slot_zip_next ty F.entry_zip_next ?_ (F.args_zip_next_1 _))))
  exact szip_item S D1 D2 hz hTI hTO st1 st2 hi1 hi2 fun x y h' tk q1 q2 q3 q4 q5 q6 q7 q8 => wpAny_pure (hQ x y h' tk q1 q2 q3 q4 q5 q6 q7 q8)
theorem szip_stop {s : Shared} {Q : Option Value → Shared → Prop} (hh : A.in1.handled = none) (S : ZipSep2 z TI TO i1 i2 fp1 fp2) (D1 : Draws prog w A.in1 i1 fp1 n1 P1 St1) (D2 : Draws prog w A.in1 i2 fp2 n2 P2 St2)
    (hz : SZip s.heap z TI TO .none) (hTI : IsTupOf2 s.heap TI (.ref i1) (.ref i2)) (hTO : IsTupOf2 s.heap TO a1 a2) (st1 : St1 n1 s.heap) (st2 : St2 n2 s.heap)
    (hQ : ∀ h', (∀ c o, c ≠ z → c ≠ TO → c ≠ i1 → c ≠ i2 → s.heap.get? c = some o → h'.get? c = some o) → Q none { s with heap := h' }) : wpAny (model prog w) A (pyNext (.ref z)) Q E s := by
  have ty : s.TypeIs (.ref z) "zip" := ⟨_, hz, rfl⟩
  unfold pyNext
  refine wpAny_bind (wpAny_attempt (wpAny_callSpecial?_slot (name := Str.ofString "__next__") ty F.slot_zip_next (wpAny_call_entry F.slot_zip_next ty F.entry_zip_next ?_ (F.args_zip_next_1 _))))
  refine szip_done hh S D1 D2 hz hTI st1 st2 hTO fun h' e k he => ?_
  obtain ⟨o, ho, hc⟩ := he
  exact wpAny_bind (wpAny_isInstance (T := "StopIteration") (b := true) ⟨o, ho, hc⟩ isSubtype_stop (wpAny_pure (hQ h' k)))
theorem szip_go {s : Shared} {elts : List Expr} {x1 : Nat} {pos : Pos} {T : Addr} {Q : Unit → Shared → Prop} (hz : SZip s.heap z TI TO (rawInt T))
    (hQ : ∀ h', SZip h' z TI TO .none → Heap.SameBut z s.heap h' → Q () { s with heap := h' }) : wpAny (model prog w) A (letOwnedTupleGo (.Tuple elts x1 pos) (.ref z) (.ref T)) Q E s := by
  unfold letOwnedTupleGo
  refine wpAny_bind (wpAny_load hz ?_)
  refine wp_ifP (by simp) (wpAny_bind (wpAny_rule ?_))
  exact wpAny_setField_rec hz (by simp) fun h' a b => hQ h' a b
theorem szip_iter {s : Shared} {f0 : Value} {Q : Value → Shared → Prop} (hz : SZip s.heap z TI TO f0) (h : Q (.ref z) s) : wpAny (model prog w) A (pyIter (.ref z)) Q E s := by
  have ty : s.TypeIs (.ref z) "zip" := ⟨_, hz, rfl⟩
  refine wpAny_pyIter_slot ty F.slot_zip_iter (wpAny_call_entry F.slot_zip_iter ty F.entry_zip_iter ?_ (F.args_zip_iter_1 _))
  exact wpAny_pure ⟨_, rfl, "zip", _, ty, F.slot_zip_next.lookup, h⟩
end
end PV

/-! PV, part H3: zip(xs, ys, strict=True) is made; a loop over it. -/
namespace PV
open PySem PySem.Spec PyProof.Rows L2
open PySem.Sem (wp)
abbrev kwS : List (Str × Value) := [("strict", .bool true)]
theorem typeCallS (a b : Value) : checkTypeCall "zip" ⟨[a, b], kwS⟩ = pure () := by kernel_rfl
theorem newCallS (a b : Value) : checkBuiltinCall "zip.__new__" ⟨[.type "zip", a, b], kwS⟩ = pure () := by kernel_rfl
theorem argsS (obj a b : Value) : argsOk "object.__init__" ⟨[obj, a, b], kwS⟩ := by
  unfold argsOk; kernel_rfl
abbrev szT (h : Heap) (o1 o2 : Obj) : Heap := ((h.push o1).push o2).push { cls := .type "tuple", data := .seq #[.ref h.objs.size, .ref (h.push o1).objs.size] }
abbrev szO (h : Heap) (o1 o2 : Obj) : Heap := (szT h o1 o2).push { cls := .type "tuple", data := .seq #[.none, .none] }
abbrev szZ (h : Heap) (o1 o2 : Obj) : Heap := (szO h o1 o2).push { cls := .type "zip", data := .fields #[.none, .bool false, .bool true, .ref ((h.push o1).push o2).objs.size, .ref (szT h o1 o2).objs.size] }
theorem meetsS {v1 v2 : Value} {o1 o2 : Obj} {H1 H2 : Heap → Prop} (B1 : Begins v1 o1 H1) (B2 : Begins v2 o2 H2) :
    Meets (Builtin.«zip.__new__» ⟨[.type "zip", v1, v2], kwS⟩) (fun _ R s => (H1 s.heap ∧ H2 s.heap) ∧ R (.ok (.ret (.ref (szO s.heap o1 o2).objs.size))) { s with heap := szZ s.heap o1 o2 }) :=
  .of_wp fun prog w A R s hq => by
    obtain ⟨hp, gl, di, tk, ou⟩ := s
    obtain ⟨⟨h1, h2⟩, h⟩ := hq
    have hsub := sub_zip
    have q1 : ∀ {A' : Around} {E : Value → Shared → Prop} {Q : Value → Shared → Prop}, Q (.ref hp.objs.size) ⟨hp.push o1, gl, di, tk, ou⟩ → wpAny (model prog w) A' (pyIter v1) Q E ⟨hp, gl, di, tk, ou⟩ :=
      fun q0 => B1.iter prog w _ _ ⟨hp, gl, di, tk, ou⟩ _ h1 q0
    have q2 : ∀ {A' : Around} {E : Value → Shared → Prop} {Q : Value → Shared → Prop}, Q (.ref (hp.push o1).objs.size) ⟨(hp.push o1).push o2, gl, di, tk, ou⟩ → wpAny (model prog w) A' (pyIter v2) Q E ⟨hp.push o1, gl, di, tk, ou⟩ :=
      fun q0 => B2.iter prog w _ _ ⟨hp.push o1, gl, di, tk, ou⟩ _ (B2.keeps _ _ h2 fun b o' e => Heap.get?_push_of_some _ e) q0
    wp_walk using q1, q2
    exact ⟨_, rfl, h⟩
theorem initS {obj a b : Value} : Meets (Builtin.«object.__init__» ⟨[obj, a, b], kwS⟩) (fun _ R s => s.TypeIs obj "zip" ∧ R (.ok (.ret .none)) s) := by
  refine Meets.of_wp fun prog w A R s hs => ?_
  obtain ⟨hT, hq⟩ := hs
  have hl := F.called_zip.init.lookup
  have hm := F.called_zip.made
  have hne : (some "zip.__new__" != some "object.__new__") = true := by decide
  repeat (any_goals (first | assumption | wp_step))
  exact ⟨_, rfl, hq⟩
section
variable {prog : Program} {w : World} {A : Around} {E : Value → Shared → Prop} {s : Shared}
theorem zipS_call {v1 v2 : Value} {o1 o2 : Obj} {H1 H2 : Heap → Prop} {Q : Value → Shared → Prop} (B1 : Begins v1 o1 H1) (B2 : Begins v2 o2 H2) (k1 : H1 s.heap) (k2 : H2 s.heap)
    (q : Q (.ref (szO s.heap o1 o2).objs.size) { s with heap := szZ s.heap o1 o2 }) : wpAny (model prog w) A (call (.type "zip") [v1, v2] kwS) Q E s := by
  have ft := F.called_zip
  obtain ⟨c, tl, hmro⟩ := ft.mro
  have hmade := ft.made
  have hsub := ft.sub
  refine wpAny_call (codeAny_of_tree ?_)
  show wpAny _ _ (callAny (.type "zip") _) _ _ _
  refine wpAny_pure ⟨Code.quiet_builtin _ (by decide +kernel), codeAny_builtin F.entry_type_call ?_⟩
  rw [Around.under_plain rfl rfl]
  have hct := typeCallS v1 v2
  have h1 := ft.notType
  have h2 := ft.canCreate
  repeat (any_goals (first | assumption | wp_step))
  refine codeAny_mono (codeAny_call_builtin ft.plain F.entry_zip_new (wpAny_of_eq (newCallS v1 v2) (meetsS B1 B2 prog w A.in1 (wants (fun obj s₁ => s₁.TypeIs obj "zip" ∧ Q obj s₁) E) s ⟨⟨k1, k2⟩, ⟨_, Heap.get?_push_size _ rfl, rfl⟩, q⟩))) fun r s₁ hr => ?_
  cases r with
  | error e => exact hr
  | ok fl =>
    cases fl with
    | ret obj =>
      obtain ⟨hT, hq⟩ := hr
      have hli := ft.init.lookup
      have hbi := ft.init.bind obj
      repeat (any_goals (first | assumption | wp_step))
      refine codeAny_mono (codeAny_call_builtin ft.init.plain F.entry_object_init (ft.init.check _ _ _ _ _ _ _ _ hT (argsS obj v1 v2) (initS prog w A.in1 (wants (fun r s₂ => r = .none ∧ Q obj s₂) E) s₁ ⟨hT, rfl, hq⟩))) fun r₂ s₂ hr₂ => ?_
      cases r₂ with
      | error e => exact hr₂
      | ok fl₂ =>
        cases fl₂ with
        | ret r =>
          obtain ⟨rfl, hq⟩ := hr₂
          repeat (any_goals (first | assumption | wp_step))
        | _ => exact hr₂.elim
    | _ => exact hr.elim
end
end PV

/-! PV, part H4: a loop over zip(xs, ys, strict=True). -/
namespace PV
open PySem PySem.Spec PyProof.Rows L2

/-! ### a type called with keywords -/
theorem callWith_tkw {M : Model} {A : Around} {E : Value → Shared → Prop} {s : Shared} {env : PySem.Env} {pos : Pos} {T : String} {e : Expr} {rest : List Expr} {kws : List Keyword} {Q : Value → Shared → Prop}
    (h : wpAny M A (spliced (backTo pos (starEach (e :: rest) env))) (fun vs s₁ => wpAny M A (evalAll ((backToKw pos (keywordEach kws env)).map (·.2)))
      (fun kvs s₂ => wpAny M A (call (.type T) vs (((backToKw pos (keywordEach kws env)).filterMap (·.1)).zip kvs)) Q E s₂) E s₁) E s)
    (he : backTo pos (starEach (e :: rest) env) = (false, eval e env) :: backTo pos (starEach rest env)) (hpl : (backTo pos (starEach rest env)).any (·.1) = false)
    (hall : (backToKw pos (keywordEach kws env)).all (·.1.isSome) = true) (hno : (backToKw pos (keywordEach kws env)).any (·.1.isNone) = false) :
    wpAny M A (callWith pos (.type T) [] (backTo pos (starEach (e :: rest) env)) (backToKw pos (keywordEach kws env))) Q E s := by
  rw [he] at h ⊢
  unfold callWith
  refine wpAny_bind (wpAny_holding (wpAny_mono (evalArgs_kwB (Q := fun a s₂ => wpAny M A (call (.type T) ([] ++ a.pos) a.kw) Q E s₂) hall h) (fun a s₁ h₁ => wpAny_bind (wpAny_standAt ?_)) fun _ _ x => x))
  have ns : ((false, eval e env) :: backTo pos (starEach rest env)).any (·.1) = false := by
    show (false || (backTo pos (starEach rest env)).any (·.1)) = false
    rw [hpl]; rfl
  simp only [ns, hno, Bool.or_false]
  refine wpAny_bind (wpAny_pure ?_)
  exact wpAny_bind (wpAny_mono h₁ (fun r s₂ hr => wpAny_bind (wpAny_holding (wpAny_point (wpAny_pure hr)))) fun _ _ x => x)

/-! ### the loop -/
def ItZS (K : PySem.W.Frag) (t u : Bool) (a b : Addr) : It :=
  ⟨fun i H => ∃ (xs ys : List V) (x y : V), SqX K t H a xs ∧ SqX K u H b ys ∧ xs[i]? = some x ∧ ys[i]? = some y,
    fun i H v H' => ∃ T x y, v = .ref T ∧ H T = none ∧ H' = upd H T (.tup [x, y]) ∧ (∀ xs, SqX K t H a xs → xs[i]? = some x) ∧ ∀ ys, SqX K u H b ys → ys[i]? = some y,
    fun i H => ∃ xs ys : List V, SqX K t H a xs ∧ SqX K u H b ys ∧ xs.length = i ∧ ys.length = i⟩
theorem turn_zipS {P : Program} {w : World} {K : PySem.W.Frag} {elts : List Expr} {kk : Nat} {tpos : Pos} (t u : Bool) {a b z TI TO i1 i2 : Addr} (S : ZipSep2 z TI TO i1 i2 [i1, a] [i2, b]) (ha : a ≠ i1) (hb : b ≠ i2) :
    Turn P w K (.Tuple elts kk tpos) (ItZS K t u a b) [z, TI, TO, i1, i2] z (fun i h => SZip h z TI TO .none ∧ IsTupOf2 h TI (.ref i1) (.ref i2) ∧ (∃ x y, IsTupOf2 h TO x y) ∧ ItX t h i1 a i ∧ ItX u h i2 b i) where
  mem := by simp
  obj := fun i h st c hc => by
    obtain ⟨hz, hTI, ⟨x, y, hTO⟩, h1, h2⟩ := st
    simp only [List.mem_cons, List.not_mem_nil, or_false] at hc
    rcases hc with rfl | rfl | rfl | rfl | rfl
    · exact ⟨_, hz, fun v q => nomatch q⟩
    · exact ⟨_, hTI, fun v q => nomatch q⟩
    · exact ⟨_, hTO, fun v q => nomatch q⟩
    · exact h1.obj
    · exact h2.obj
  keep := fun i h h' st k => by
    obtain ⟨hz, hTI, ⟨x, y, hTO⟩, h1, h2⟩ := st
    exact ⟨k z (by simp) _ hz, k TI (by simp) _ hTI, ⟨x, y, k TO (by simp) _ hTO⟩, h1.at fun o q => k i1 (by simp) o q, h2.at fun o q => k i2 (by simp) o q⟩
  item := by
    intro X hP hw hK hc i pins s σ H E I hf st hg
    subst hP hw hK
    obtain ⟨hz, hTI, ⟨o1, o2, hTO⟩, h1, h2⟩ := st
    obtain ⟨xs, ys, x, y, hqx, hqy, hx, hy⟩ := hg
    obtain ⟨its, rv, p, _, _⟩ := invX I hqx
    obtain ⟨its2, rv2, p2, _, _⟩ := invX I hqy
    have hh : X.A.in1.handled = none := I.ok.hd hc
    have l1 := rv.length
    have l2 := rv2.length
    have q1 := (List.getElem?_eq_some_iff.mp hx).1
    have q2 := (List.getElem?_eq_some_iff.mp hy).1
    have zl := Heap.lt_size hz
    refine szip_next (A := X.A) S (drawsX t hh i1 a ha its.toArray) (drawsX u hh i2 b hb its2.toArray) hz hTI hTO ⟨h1, p⟩ ⟨h2, p2⟩ (by simp only [List.size_toArray]; omega) (by simp only [List.size_toArray]; omega) fun x' y' h' tk px py z5 o5 n1 n2 t5 k5 => ?_
    refine ⟨_, rfl, szip_go (s := { s with heap := h', toks := tk }) z5 fun h6 z6 k6 => ?_⟩
    obtain ⟨u1, hu1, ru1⟩ := rv.get hx
    obtain ⟨u2, hu2, ru2⟩ := rv2.get hy
    have e1 : x' = u1 := by
      have q1 : its.toArray[i]? = some u1 := by simpa using hu1
      rw [q1] at px; exact (Option.some.inj px).symm
    have e2 : y' = u2 := by
      have q1 : its2.toArray[i]? = some u2 := by simpa using hu2
      rw [q1] at py; exact (Option.some.inj py).symm
    subst e1 e2
    replace k6 : Heap.SameBut z h' h6 := k6
    have hlt : ∀ c ∈ [z, TI, TO, i1, i2], c < s.heap.objs.size := fun c hcm => by
      simp only [List.mem_cons, List.not_mem_nil, or_false] at hcm
      rcases hcm with rfl | rfl | rfl | rfl | rfl
      · exact zl
      · exact Heap.lt_size hTI
      · exact Heap.lt_size hTO
      · exact h1.lt
      · exact h2.lt
    have t6 : h6.IsTuple s.heap.objs.size #[x', y'] := ⟨_, k6.extBut _ _ (Nat.ne_of_gt zl) t5, rfl, _, rfl⟩
    have kk : ∀ c o, c ∉ [z, TO, i1, i2] → s.heap.get? c = some o → h6.get? c = some o := fun c o hcm e =>
      k6.extBut c o (fun q => hcm (by simp [q])) (k5 c o (fun q => hcm (by simp [q])) (fun q => hcm (by simp [q])) (fun q => hcm (by simp [q])) (fun q => hcm (by simp [q])) e)
    obtain ⟨I1, hn, hf1⟩ := turned2 (wr := [z, TO, i1, i2]) (tk := tk) (x := x) (y := y) I hf (fun c hcm => zip_sub hcm) hlt kk (Nat.le_refl _) t6 ru1 ru2
    refine ⟨.ref s.heap.objs.size, _, I1, rfl, ⟨_, x, y, rfl, hn, rfl, fun l hl => by rw [injX I hl hqx]; exact hx, fun l hl => by rw [injX I hl hqy]; exact hy⟩, ⟨z6, ?_, ⟨_, _, k6.extBut _ _ S.TOz o5⟩, n1.1.at fun o e => k6.extBut _ _ (Ne.symm S.zi1) e, n2.1.at fun o e => k6.extBut _ _ (Ne.symm S.zi2) e⟩, hf1⟩
    exact k6.extBut _ _ S.TIz (k5 _ _ S.TIz S.TITO S.TIi1 S.TIi2 hTI)
  done := by
    intro X hP hw hK hc i pins s σ H E I hf st hg
    subst hP hw hK
    obtain ⟨hz, hTI, ⟨o1, o2, hTO⟩, h1, h2⟩ := st
    obtain ⟨xs, ys, hqx, hqy, hn1, hn2⟩ := hg
    obtain ⟨its, rv, p, _, _⟩ := invX I hqx
    obtain ⟨its2, rv2, p2, _, _⟩ := invX I hqy
    have hh : X.A.in1.handled = none := I.ok.hd hc
    have l1 := rv.length
    have l2 := rv2.length
    have s1 : its.toArray.size = i := by simp only [List.size_toArray]; omega
    have s2 : its2.toArray.size = i := by simp only [List.size_toArray]; omega
    refine szip_stop (A := X.A) hh S (drawsX t hh i1 a ha its.toArray) (drawsX u hh i2 b hb its2.toArray) hz hTI hTO (by rw [s1]; exact ⟨h1, p⟩) (by rw [s2]; exact ⟨h2, p2⟩) fun h' k => ⟨rfl, ?_⟩
    exact I.turnedL (t' := s.toks) (ch := [z, TI, TO, i1, i2]) (fun c o hb q => k c o (fun e => hb (by simp [e])) (fun e => hb (by simp [e])) (fun e => hb (by simp [e])) (fun e => hb (by simp [e])) q) hf
  self := fun A i s Q E st h => szip_iter st.1 h
def iZipS (K : PySem.W.Frag) (ta : TA) : TI := fun σ H R => ta σ H fun vs H1 => ∃ t u a b xs ys, vs = [.ref a, .ref b] ∧ SqX K t H1 a xs ∧ SqX K u H1 b ys ∧ R (ItZS K t u a b) H1
theorem pi_zipS {X : Cx} {e e2 : Expr} {ta : TA} {p pos tpos kp cp : Pos} {elts : List Expr} {kk ck : Nat} (hg : Gl X "zip") (hm : X.mg "zip" = none) (ha : PA X [e, e2] ta)
    (hs : starEach [e, e2] X.env = (false, eval e X.env) :: starEach [e2] X.env) (hpl : (backTo pos (starEach [e2] X.env)).any (·.1) = false) :
    PI X (.Tuple elts kk tpos) (.Call (.Name "zip" p) [e, e2] [⟨some "strict", .Constant (.bool true) ck cp, kp⟩] pos) (iZipS X.K ta) := by
  refine ⟨fun pins s σ H R I h => ?_⟩
  refine wpAny_Call_Name_kw (ld_blt I hg hm PyProof.Rows.boot_zip ?_)
  refine callWith_tkw (thn (ha.run pos pins s σ H _ I h) fun us s1 hq => ?_) (by rw [hs]; rfl) hpl rfl rfl
  refine kws_cons (Constant_bool (kws_nil ?_))
  obtain ⟨vs, H1, I1, r1, t, u, a, b, xs, ys, rfl, hqx, hqy, q⟩ := hq
  obtain ⟨v1, v2, rfl, ru1, ru2⟩ := vals2 r1
  cases ru1
  cases ru2
  obtain ⟨its, rv, p1, _, la⟩ := invX I1 hqx
  obtain ⟨its2, rv2, p2, _, lb⟩ := invX I1 hqy
  refine zipS_call (beginsX t a its.toArray) (beginsX u b its2.toArray) p1 p2 ?_
  have f1 := (beginsX t a its.toArray).free
  have f2 := (beginsX u b its2.toArray).free
  have z1 : (s1.heap.push (obX t a)).objs.size = s1.heap.objs.size + 1 := Heap.size_push ..
  have z2 : ((s1.heap.push (obX t a)).push (obX u b)).objs.size = s1.heap.objs.size + 2 := by rw [Heap.size_push, z1]
  have z3 : (szT s1.heap (obX t a) (obX u b)).objs.size = s1.heap.objs.size + 3 := by rw [Heap.size_push, z2]
  have z4 : (szO s1.heap (obX t a) (obX u b)).objs.size = s1.heap.objs.size + 4 := by rw [Heap.size_push, z3]
  have g3 : (szZ s1.heap (obX t a) (obX u b)).get? ((s1.heap.push (obX t a)).push (obX u b)).objs.size = some { cls := .type "tuple", data := .seq #[.ref s1.heap.objs.size, .ref (s1.heap.push (obX t a)).objs.size] } := Heap.get?_push_of_some _ (Heap.get?_push_of_some _ (Heap.get?_push_size _ rfl))
  have g2 : (szZ s1.heap (obX t a) (obX u b)).get? (s1.heap.push (obX t a)).objs.size = some (obX u b) := Heap.get?_push_of_some _ (Heap.get?_push_of_some _ (Heap.get?_push_of_some _ (Heap.get?_push_size _ f2)))
  have g1 : (szZ s1.heap (obX t a) (obX u b)).get? s1.heap.objs.size = some (obX t a) := Heap.get?_push_of_some _ (Heap.get?_push_of_some _ (Heap.get?_push_of_some _ (Heap.get?_push_of_some _ (Heap.get?_push_size _ f1))))
  rw [z2, z1] at g3
  rw [z1] at g2
  rw [z4]
  have up : ∀ c o, s1.heap.get? c = some o → (szZ s1.heap (obX t a) (obX u b)).get? c = some o := fun c o e => Heap.get?_push_of_some _ (Heap.get?_push_of_some _ (Heap.get?_push_of_some _ (Heap.get?_push_of_some _ (Heap.get?_push_of_some _ e))))
  have S : ZipSep2 (s1.heap.objs.size + 4) (s1.heap.objs.size + 2) (s1.heap.objs.size + 3) s1.heap.objs.size (s1.heap.objs.size + 1) [s1.heap.objs.size, a] [s1.heap.objs.size + 1, b] :=
    zip_sep2 (fun c hc => by rw [List.mem_singleton.mp hc]; exact la) (fun c hc => by rw [List.mem_singleton.mp hc]; exact lb)
  have gz : SZip (szZ s1.heap (obX t a) (obX u b)) (s1.heap.objs.size + 4) (s1.heap.objs.size + 2) (s1.heap.objs.size + 3) .none := by
    show (szZ s1.heap (obX t a) (obX u b)).get? (s1.heap.objs.size + 4) = _
    rw [← z4]
    refine (Heap.get?_push_size _ rfl).trans ?_
    rw [z2, z3]
  have g4 : IsTupOf2 (szZ s1.heap (obX t a) (obX u b)) (s1.heap.objs.size + 3) .none .none := by
    show (szZ s1.heap (obX t a) (obX u b)).get? (s1.heap.objs.size + 3) = _
    refine Heap.get?_push_of_some _ ?_
    rw [← z3]
    exact Heap.get?_push_size _ rfl
  refine szip_iter gz ?_
  refine ⟨s1.heap.objs.size + 4, [s1.heap.objs.size + 4, s1.heap.objs.size + 2, s1.heap.objs.size + 3, s1.heap.objs.size, s1.heap.objs.size + 1], _, _, H1, rfl, I1.kept (t' := s1.toks) up,
    turn_zipS t u S (Nat.ne_of_lt la) (Nat.ne_of_lt (Nat.lt_succ_of_lt lb)), ⟨gz, g3, ⟨_, _, g4⟩, startX t g1, startX u g2⟩, fun c hcm => ?_, q⟩
  have hle : s1.heap.objs.size ≤ c := by
    simp only [List.mem_cons, List.not_mem_nil, or_false] at hcm
    rcases hcm with e | e | e | e | e <;> rw [e] <;> first | exact Nat.le_refl _ | exact Nat.le_add_right _ _
  exact I1.fpOk hle (I1.hok.fresh hle)
end PV

/-! PV, part I: what is walked; targets; comprehensions. -/
namespace PV
open PySem PySem.Spec PyProof.Rows L2

def Per (as : List Addr) (H1 H : Hp) : Prop := (∀ a ∈ as, H a = H1 a) ∧ ∀ a xs, H1 a = some (.tup xs) → H a = some (.tup xs)
def YI (ca : Addr) (ds : List D) (as : List Addr) : Nat → Hp → V → Hp → Prop := fun i H x Hx => ∃ d bs, ds[i]? = some d ∧ Same H Hx ∧ Rp ca Hx x d bs ∧ ∀ a ∈ bs, a ∈ as
structure ResI (sa ca : Addr) (H : Hp) (env : Env) (F : Nat → List Addr) (ds : List D) (fr : Bool) (s' : Src) (J : It) (H' : Hp) (as : List Addr) : Prop where
  g : Grow sa ca H H'
  src : SrcAt sa ca s' H'
  trk : ∀ a ∈ as, a ≠ ca ∧ ∃ xs, H' a = some (.lst xs)
  walk : Walk J ds.length (Per as H') (YI ca ds as)
  fr : fr = true → ∀ a ∈ as, H a = none
  al : ∀ a ∈ as, H a = none ∨ Al env F a
def tI (sx : Option Nat) (m : Env → Src → Option (List D × Bool × Src)) : TI := fun σ H R => ∃ sa ca env s F ds fr s', SrcAt sa ca s H ∧ EnvAt sx sa ca H env σ F ∧ m env s = some (ds, fr, s') ∧
  ∀ J H' as, ResI sa ca H env F ds fr s' J H' as → R J H'
theorem PI_or {X : Cx} {tg e : Expr} {t t' : TI} (h : PI X tg e t) (h' : PI X tg e t') : PI X tg e (fun σ H R => t σ H R ∨ t' σ H R) := ⟨fun pins s σ H R I q => q.elim (h.run pins s σ H R I) (h'.run pins s σ H R I)⟩
section
variable {T : List FI} {N : List Str} {sx : Option Nat} {cf : CallF} {k : Nat} {X : Cx} {sc : Scope}

theorem RpAll.getV {ca : Addr} {H : Hp} {ds : List D} {vs : List V} {as : List Addr} (h : RpAll ca H vs ds as) {i : Nat} {x : V} (e : vs[i]? = some x) : ∃ d bs, ds[i]? = some d ∧ Rp ca H x d bs ∧ ∀ a ∈ bs, a ∈ as := by
  have hi : i < ds.length := by rw [← h.len]; exact (List.getElem?_eq_some_iff.mp e).1
  obtain ⟨v, bs, e1, r, sub⟩ := h.get (i := i) (d := ds[i]) (List.getElem?_eq_getElem hi)
  rw [e] at e1
  cases e1
  exact ⟨_, bs, List.getElem?_eq_getElem hi, r, sub⟩
theorem Rp.per {ca : Addr} {H1 H : Hp} {v : V} {d : D} {as bs : List Addr} (r : Rp ca H1 v d bs) (p : Per as H1 H) (sub : ∀ a ∈ bs, a ∈ as) : Rp ca H v d bs := r.mono p.2 fun a ha => p.1 a (sub a ha)
/-- a sequence's data, its container among as where it is a list -/
structure SeqD (ca : Addr) (H : Hp) (K : PySem.W.Frag) (t : Bool) (a : Addr) (ds : List D) (as : List Addr) (vs : List V) : Prop where
  all : ∃ bs, RpAll ca H vs ds bs ∧ ∀ b ∈ bs, b ∈ as
  here : ∀ H', Per as H H' → SqX K t H' a vs
def isTup : D → Bool
  | .tuple _ => true
  | _ => false
def itOf (K : PySem.W.Frag) (t : Bool) (a : Addr) : It := match t with | true => Itt K a | false => Itl K a
theorem seqD {K : PySem.W.Frag} {ca : Addr} {H : Hp} {v : V} {d : D} {ds : List D} {as : List Addr} (r : Rp ca H v d as) (h : items? d = some ds) : ∃ a vs, v = .ref a ∧ SeqD ca H K (isTup d) a ds as vs := by
  cases r <;> simp only [items?] at h <;> first | (cases h; done) | skip
  · rename_i a xs ds' bs e n rv
    cases h
    exact ⟨a, xs, rfl, ⟨bs, rv, fun b hb => List.mem_cons_of_mem _ hb⟩, fun H' p => SqL.of ((p.1 a List.mem_cons_self).trans e)⟩
  · rename_i a xs ds' e rv
    cases h
    exact ⟨a, xs, rfl, ⟨as, rv, fun b hb => hb⟩, fun H' p => SqT.of (p.2 a xs e)⟩
theorem Per.refl {as : List Addr} {H : Hp} : Per as H H := ⟨fun _ _ => rfl, fun _ _ h => h⟩
theorem walkX {K : PySem.W.Frag} {ca : Addr} {H : Hp} {t : Bool} {a : Addr} {ds : List D} {as : List Addr} {vs : List V} (s : SeqD ca H K t a ds as vs) : Walk (itOf K t a) ds.length (Per as H) (YI ca ds as) := by
  obtain ⟨bs, rv, sub⟩ := s.all
  rw [← rv.len]
  have y : ∀ i H' x H'', i < vs.length → Per as H H' → YAt vs i H' x H'' → YI ca ds as i H' x H'' := fun i H' x H'' _ p ⟨e, ex⟩ => by
    subst e
    obtain ⟨d, cs, ed, r, sub2⟩ := rv.getV ex
    exact ⟨d, cs, ed, Same.refl _, r.per p fun b hb => sub b (sub2 b hb), fun b hb => sub b (sub2 b hb)⟩
  cases t with
  | true => exact walk_tup.mono (fun H' p => s.here H' p) y
  | false => exact walk_list.mono (fun H' p => s.here H' p) y
theorem i_val {tg x : Expr} {a : CE} (ha : PE X x (tE sx (run cf a))) : PI X tg x (tI sx (runI cf (.val a))) := by
  refine (PI_or (pi_list ha) (pi_tup ha)).pvImp fun σ H R ⟨sa, ca, env, s, F, ds, fr, s', hs, he, hm, q⟩ => ?_
  simp only [runI] at hm
  split at hm
  · rename_i d fx s1 h1
    obtain ⟨xs, hx, e⟩ := Option.map_eq_some_iff.mp hm
    simp only [Prod.mk.injEq] at e
    obtain ⟨rfl, rfl, rfl⟩ := e
    have go : ∀ v H1 as, Res sa ca H env F d fx s1 v H1 as → ∃ a vs, v = .ref a ∧ SqX X.K (isTup d) H1 a vs ∧ R (itOf X.K (isTup d) a) H1 := fun v H1 as r1 => by
      obtain ⟨a, vs, rfl, sd⟩ := seqD (K := X.K) r1.rp hx
      refine ⟨a, vs, rfl, sd.here H1 .refl, q _ H1 as ⟨r1.g, r1.src, r1.rp.trk, walkX sd, fun h => ?_, r1.al⟩⟩
      exact (fr_or r1.rp r1.fr h).2
    cases d <;> simp only [items?] at hx <;> first | (cases hx; done) | skip
    · refine .inl ⟨sa, ca, env, s, F, _, fx, s1, hs, he, h1, fun v H1 as r1 => ?_⟩
      obtain ⟨a, vs, rfl, sd, hR⟩ := go v H1 as r1
      exact ⟨a, rfl, ⟨vs, sd⟩, hR⟩
    · refine .inr ⟨sa, ca, env, s, F, _, fx, s1, hs, he, h1, fun v H1 as r1 => ?_⟩
      obtain ⟨a, vs, rfl, sd, hR⟩ := go v H1 as r1
      exact ⟨a, rfl, ⟨vs, sd⟩, hR⟩
  · cases hm
theorem okRg_ok {i j : Int} (h : okRg i j = true) : -(2 ^ 62) ≤ i ∧ i < 2 ^ 62 ∧ -(2 ^ 62) ≤ j ∧ j < 2 ^ 62 := by
  unfold okRg at h
  simp only [Bool.and_eq_true, decide_eq_true_eq] at h
  exact ⟨h.1.1.1, h.1.1.2, h.1.2, h.2⟩
theorem resRange {sa ca : Addr} {H H1 : Hp} {env : Env} {F : Nat → List Addr} {s1 : Src} {lo : Int} {n : Nat} (g : Grow sa ca H H1) (x : SrcAt sa ca s1 H1) : ResI sa ca H env F (rangeD lo n) true s1 (Itr lo n) H1 [] := by
  refine ⟨g, x, (fun _ h => nomatch h), ?_, (fun _ _ h => nomatch h), (fun _ h => nomatch h)⟩
  have e : (rangeD lo n).length = n := by simp [rangeD]
  rw [e]
  refine walk_range.mono (fun _ _ => trivial) fun i H' x H'' hi p ⟨e1, e2⟩ => ?_
  subst e1 e2
  exact ⟨.int (lo + i), [], by simp [rangeD, hi], Same.refl _, .int _, fun _ h => nomatch h⟩
theorem i_rg1 {tg x : Expr} {a : CE} {p pos : Pos} {g : Str} (x0 : XOk T N cf k X sc) (hg : g = "range") (hgl : isGl sc g = true) (s1 : starE x = false) (ha : PE X x (tE sx (run cf a))) : PI X tg (.Call (.Name g p) [x] [] pos) (tI sx (runI cf (.rg1 a))) := by
  subst hg
  refine (pi_range1 (gl_ok x0 hgl) (x0.gl _ (by decide)) (pa_cons ha pa_nil (starEach_cons s1)) (starEach_cons s1)).pvImp fun σ H R ⟨sa, ca, env, s, F, ds, fr, s', hs, he, hm, q⟩ => ?_
  simp only [runI] at hm
  split at hm
  · rename_i j fx s1 h1
    split at hm
    · rename_i hz
      simp only [Option.some.injEq, Prod.mk.injEq] at hm
      obtain ⟨rfl, rfl, rfl⟩ := hm
      refine ⟨sa, ca, env, s, F, _, fx, s1, hs, he, h1, fun v H1 as r1 => ?_⟩
      cases r1.rp
      have z := okRg_ok hz
      exact ⟨j, rfl, z.2.2.1, z.2.2.2, q _ H1 [] (resRange r1.g r1.src)⟩
    · cases hm
  · cases hm
theorem i_rg2 {tg x y : Expr} {a b : CE} {p pos : Pos} {g : Str} (x0 : XOk T N cf k X sc) (hg : g = "range") (hgl : isGl sc g = true) (s1 : starE x = false) (s2 : starE y = false) (ha : PE X x (tE sx (run cf a))) (hb : PE X y (tE sx (run cf b))) :
    PI X tg (.Call (.Name g p) [x, y] [] pos) (tI sx (runI cf (.rg2 a b))) := by
  subst hg
  refine (pi_range2 (gl_ok x0 hgl) (x0.gl _ (by decide)) (pa_cons ha (pa_cons hb pa_nil (starEach_cons s2)) (starEach_cons s1)) (by rw [starEach_cons s1, starEach_cons s2]; rfl) (starEach_cons s2)).pvImp fun σ H R ⟨sa, ca, env, s, F, ds, fr, s', hs, he, hm, q⟩ => ?_
  simp only [runI] at hm
  split at hm
  · rename_i i fx s1 h1
    split at hm
    · rename_i j fy s2 h2
      split at hm
      · rename_i hz
        simp only [Option.some.injEq, Prod.mk.injEq] at hm
        obtain ⟨rfl, rfl, rfl⟩ := hm
        refine ⟨sa, ca, env, s, F, _, fx, s1, hs, he, h1, fun v H1 as r1 => ?_⟩
        refine ⟨sa, ca, env, s1, F, _, fy, s2, r1.src, he.grow hs r1.g, h2, fun w H2 bs r2 => ?_⟩
        cases r1.rp
        cases r2.rp
        exact ⟨i, j, rfl, okRg_ok hz, q _ H2 [] (resRange (r1.g.trans r2.g) r2.src)⟩
      · cases hm
    · cases hm
  · cases hm
theorem enum_get {xs : List D} {i : Nat} {d : D} (h : xs[i]? = some d) : (enumD xs)[i]? = some (.tuple [.int (i : Nat), d]) := by
  have hi := (List.getElem?_eq_some_iff.mp h).1
  unfold enumD pairs
  rw [List.getElem?_zipWith, h]
  simp [hi]
theorem pairs_get {xs ys : List D} {i : Nat} {d e : D} (h : xs[i]? = some d) (h2 : ys[i]? = some e) : (pairs xs ys)[i]? = some (.tuple [d, e]) := by
  unfold pairs
  rw [List.getElem?_zipWith, h, h2]
theorem same_new {H : Hp} {p : Addr} {o : HO} (h : H p = none) : Same H (upd H p o) := fun b x e => by
  rw [upd_ne (ne_of_none e h)]; exact e
theorem Rp.same {ca : Addr} {H H' : Hp} {v : V} {d : D} {as : List Addr} (r : Rp ca H v d as) (g : Same H H') : Rp ca H' v d as := r.mono (fun a xs h => g a _ h) fun a ha => by
  obtain ⟨_, xs, e⟩ := r.trk a ha
  rw [e]; exact g a _ e
theorem i_enum {x : Expr} {a : CE} {p pos tpos : Pos} {g : Str} {elts : List Expr} {kk : Nat} (x0 : XOk T N cf k X sc) (hg : g = "enumerate") (hgl : isGl sc g = true) (s1 : starE x = false) (ha : PE X x (tE sx (run cf a))) :
    PI X (.Tuple elts kk tpos) (.Call (.Name g p) [x] [] pos) (tI sx (runI cf (.enum a))) := by
  subst hg
  refine (pi_enumX (gl_ok x0 hgl) (x0.gl _ (by decide)) (pa_cons ha pa_nil (starEach_cons s1)) (starEach_cons s1)).pvImp fun σ H R ⟨sa, ca, env, s, F, ds, fr, s', hs, he, hm, q⟩ => ?_
  simp only [runI] at hm
  split at hm
  · rename_i d fx s1 h1
    obtain ⟨xs, hx, e⟩ := Option.map_eq_some_iff.mp hm
    simp only [Prod.mk.injEq] at e
    obtain ⟨rfl, rfl, rfl⟩ := e
    refine ⟨sa, ca, env, s, F, d, fx, s1, hs, he, h1, fun v H1 as r1 => ?_⟩
    obtain ⟨b, vs, rfl, sd⟩ := seqD (K := X.K) r1.rp hx
    obtain ⟨bs, rv, sub⟩ := sd.all
    refine ⟨isTup d, b, vs, rfl, sd.here H1 .refl, q _ H1 as ⟨r1.g, r1.src, r1.rp.trk, ?_, fun h => (fr_or r1.rp r1.fr h).2, r1.al⟩⟩
    have el : (enumD xs).length = vs.length := by simp [enumD, pairs, rv.len]
    rw [el]
    refine ⟨fun i H' hi p => ⟨vs, vs[i], sd.here H' p, List.getElem?_eq_getElem hi⟩, fun H' p => ⟨vs, sd.here H' p, rfl⟩, fun i H' y H'' hi p hy => ?_⟩
    obtain ⟨T, z, rfl, hT, rfl, hz⟩ := hy
    obtain ⟨dz, cs, ed, r, sub2⟩ := rv.getV (hz vs (sd.here H' p))
    refine ⟨_, cs, enum_get ed, same_new hT, ?_, fun c hc => sub c (sub2 c hc)⟩
    have r' : Rp ca (upd H' T (.tup [.int (i : Nat), z])) z dz cs := (r.per p fun c hc => sub c (sub2 c hc)).same (same_new hT)
    have := Rp.tup (ca := ca) upd_same (.cons (.int (i : Nat)) (.cons r' .nil))
    simpa using this
  · cases hm
theorem i_zip {x y : Expr} {a b : CE} {p pos tpos : Pos} {g : Str} {elts : List Expr} {kk : Nat} (x0 : XOk T N cf k X sc) (hg : g = "zip") (hgl : isGl sc g = true) (s1 : starE x = false) (s2 : starE y = false) (ha : PE X x (tE sx (run cf a))) (hb : PE X y (tE sx (run cf b))) :
    PI X (.Tuple elts kk tpos) (.Call (.Name g p) [x, y] [] pos) (tI sx (runI cf (.zip a b))) := by
  subst hg
  refine (pi_zipX (gl_ok x0 hgl) (x0.gl _ (by decide)) (pa_cons ha (pa_cons hb pa_nil (starEach_cons s2)) (starEach_cons s1)) (starEach_cons s1) (noStar (by simp [s2]))).pvImp fun σ H R ⟨sa, ca, env, s, F, ds, fr, s', hs, he, hm, q⟩ => ?_
  simp only [runI] at hm
  split at hm
  · rename_i d fx s1 h1
    split at hm
    · rename_i e fy s2 h2
      split at hm
      · rename_i xs ys hx hy
        simp only [Option.some.injEq, Prod.mk.injEq] at hm
        obtain ⟨rfl, rfl, rfl⟩ := hm
        refine ⟨sa, ca, env, s, F, d, fx, s1, hs, he, h1, fun v H1 as r1 => ?_⟩
        refine ⟨sa, ca, env, s1, F, e, fy, s2, r1.src, he.grow hs r1.g, h2, fun w H2 bs r2 => ?_⟩
        have rp1 := r1.rp.grow r1.src r2.g
        obtain ⟨b1, vs, rfl, sd⟩ := seqD (K := X.K) rp1 hx
        obtain ⟨b2, ws, rfl, sd2⟩ := seqD (K := X.K) r2.rp hy
        obtain ⟨cs, rv, sub⟩ := sd.all
        obtain ⟨cs2, rv2, sub2⟩ := sd2.all
        have p1 : ∀ {H'}, Per (as ++ bs) H2 H' → Per as H2 H' := fun p => ⟨fun c hc => p.1 c (List.mem_append_left _ hc), p.2⟩
        have p2 : ∀ {H'}, Per (as ++ bs) H2 H' → Per bs H2 H' := fun p => ⟨fun c hc => p.1 c (List.mem_append_right _ hc), p.2⟩
        refine ⟨isTup d, isTup e, b1, b2, vs, ws, rfl, sd.here H2 .refl, sd2.here H2 .refl, q _ H2 (as ++ bs) ⟨r1.g.trans r2.g, r2.src, fun c hc => ?_, ?_, fun h c hc => ?_, fun c hc => ?_⟩⟩
        · rcases List.mem_append.mp hc with hc | hc
          · exact rp1.trk c hc
          · exact r2.rp.trk c hc
        · have el : (pairs xs ys).length = min vs.length ws.length := by simp [pairs, rv.len, rv2.len]
          rw [el]
          refine ⟨fun i H' hi p => ⟨vs, ws, vs[i]'(by omega), ws[i]'(by omega), sd.here H' (p1 p), sd2.here H' (p2 p), List.getElem?_eq_getElem _, List.getElem?_eq_getElem _⟩, fun H' p => ⟨vs, ws, sd.here H' (p1 p), sd2.here H' (p2 p), rfl⟩, fun i H' z H'' hi p hz => ?_⟩
          obtain ⟨T, z1, z2, rfl, hT, rfl, hz1, hz2⟩ := hz
          obtain ⟨dz, es, ed, r, sb⟩ := rv.getV (hz1 vs (sd.here H' (p1 p)))
          obtain ⟨dz2, es2, ed2, r', sb2⟩ := rv2.getV (hz2 ws (sd2.here H' (p2 p)))
          refine ⟨_, es ++ es2, pairs_get ed ed2, same_new hT, ?_, fun c hc => ?_⟩
          · have ra : Rp ca (upd H' T (.tup [z1, z2])) z1 dz es := (r.per (p1 p) fun c hc => sub c (sb c hc)).same (same_new hT)
            have rb : Rp ca (upd H' T (.tup [z1, z2])) z2 dz2 es2 := (r'.per (p2 p) fun c hc => sub2 c (sb2 c hc)).same (same_new hT)
            have := Rp.tup (ca := ca) upd_same (.cons ra (.cons rb .nil))
            simpa using this
          · rcases List.mem_append.mp hc with hc | hc
            · exact List.mem_append_left _ (sub c (sb c hc))
            · exact List.mem_append_right _ (sub2 c (sb2 c hc))
        · obtain ⟨f1, f2⟩ := (Bool.and_eq_true _ _).mp h
          rcases List.mem_append.mp hc with hc | hc
          · exact (fr_or r1.rp r1.fr f1).2 c hc
          · exact r1.g.dom c ((fr_or r2.rp r2.fr f2).2 c hc)
        · rcases List.mem_append.mp hc with hc | hc
          · exact r1.al c hc
          · exact (r2.al c hc).imp_left (r1.g.dom c)
      · cases hm
    · cases hm
  · cases hm
theorem i_zips {x y : Expr} {a b : CE} {p pos tpos kp cp : Pos} {g : Str} {elts : List Expr} {kk ck : Nat} (x0 : XOk T N cf k X sc) (hg : g = "zip") (hgl : isGl sc g = true) (s1 : starE x = false) (s2 : starE y = false) (ha : PE X x (tE sx (run cf a))) (hb : PE X y (tE sx (run cf b))) :
    PI X (.Tuple elts kk tpos) (.Call (.Name g p) [x, y] [⟨some "strict", .Constant (.bool true) ck cp, kp⟩] pos) (tI sx (runI cf (.zips a b))) := by
  subst hg
  refine (pi_zipS (gl_ok x0 hgl) (x0.gl _ (by decide)) (pa_cons ha (pa_cons hb pa_nil (starEach_cons s2)) (starEach_cons s1)) (starEach_cons s1) (noStar (by simp [s2]))).pvImp fun σ H R ⟨sa, ca, env, s, F, ds, fr, s', hs, he, hm, q⟩ => ?_
  simp only [runI] at hm
  split at hm
  · rename_i d fx s1 h1
    split at hm
    · rename_i e fy s2 h2
      split at hm
      · rename_i xs ys hx hy
        split at hm <;> first | (cases hm; done) | skip
        rename_i hlen
        simp only [Option.some.injEq, Prod.mk.injEq] at hm
        obtain ⟨rfl, rfl, rfl⟩ := hm
        refine ⟨sa, ca, env, s, F, d, fx, s1, hs, he, h1, fun v H1 as r1 => ?_⟩
        refine ⟨sa, ca, env, s1, F, e, fy, s2, r1.src, he.grow hs r1.g, h2, fun w H2 bs r2 => ?_⟩
        have rp1 := r1.rp.grow r1.src r2.g
        obtain ⟨b1, vs, rfl, sd⟩ := seqD (K := X.K) rp1 hx
        obtain ⟨b2, ws, rfl, sd2⟩ := seqD (K := X.K) r2.rp hy
        obtain ⟨cs, rv, sub⟩ := sd.all
        obtain ⟨cs2, rv2, sub2⟩ := sd2.all
        have p1 : ∀ {H'}, Per (as ++ bs) H2 H' → Per as H2 H' := fun p => ⟨fun c hc => p.1 c (List.mem_append_left _ hc), p.2⟩
        have p2 : ∀ {H'}, Per (as ++ bs) H2 H' → Per bs H2 H' := fun p => ⟨fun c hc => p.1 c (List.mem_append_right _ hc), p.2⟩
        refine ⟨isTup d, isTup e, b1, b2, vs, ws, rfl, sd.here H2 .refl, sd2.here H2 .refl, q _ H2 (as ++ bs) ⟨r1.g.trans r2.g, r2.src, fun c hc => ?_, ?_, fun h c hc => ?_, fun c hc => ?_⟩⟩
        · rcases List.mem_append.mp hc with hc | hc
          · exact rp1.trk c hc
          · exact r2.rp.trk c hc
        · have el : (pairs xs ys).length = min vs.length ws.length := by simp [pairs, rv.len, rv2.len]
          rw [el]
          refine ⟨fun i H' hi p => ⟨vs, ws, vs[i]'(by omega), ws[i]'(by omega), sd.here H' (p1 p), sd2.here H' (p2 p), List.getElem?_eq_getElem _, List.getElem?_eq_getElem _⟩, fun H' p => ⟨vs, ws, sd.here H' (p1 p), sd2.here H' (p2 p), by have := rv.len; have := rv2.len; omega, by have := rv.len; have := rv2.len; omega⟩, fun i H' z H'' hi p hz => ?_⟩
          obtain ⟨T, z1, z2, rfl, hT, rfl, hz1, hz2⟩ := hz
          obtain ⟨dz, es, ed, r, sb⟩ := rv.getV (hz1 vs (sd.here H' (p1 p)))
          obtain ⟨dz2, es2, ed2, r', sb2⟩ := rv2.getV (hz2 ws (sd2.here H' (p2 p)))
          refine ⟨_, es ++ es2, pairs_get ed ed2, same_new hT, ?_, fun c hc => ?_⟩
          · have ra : Rp ca (upd H' T (.tup [z1, z2])) z1 dz es := (r.per (p1 p) fun c hc => sub c (sb c hc)).same (same_new hT)
            have rb : Rp ca (upd H' T (.tup [z1, z2])) z2 dz2 es2 := (r'.per (p2 p) fun c hc => sub2 c (sb2 c hc)).same (same_new hT)
            have := Rp.tup (ca := ca) upd_same (.cons ra (.cons rb .nil))
            simpa using this
          · rcases List.mem_append.mp hc with hc | hc
            · exact List.mem_append_left _ (sub c (sb c hc))
            · exact List.mem_append_right _ (sub2 c (sb2 c hc))
        · obtain ⟨f1, f2⟩ := (Bool.and_eq_true _ _).mp h
          rcases List.mem_append.mp hc with hc | hc
          · exact (fr_or r1.rp r1.fr f1).2 c hc
          · exact r1.g.dom c ((fr_or r2.rp r2.fr f2).2 c hc)
        · rcases List.mem_append.mp hc with hc | hc
          · exact r1.al c hc
          · exact (r2.al c hc).imp_left (r1.g.dom c)
      · cases hm
    · cases hm
  · cases hm
end
end PV

/-! PV, part J: targets, comprehensions, the expressions' theorem. -/
namespace PV
open PySem PySem.Spec PyProof.Rows L2

/-! ### targets -/
mutual
/-- values stored by a target -/
inductive AsgV (ca : Addr) (H : Hp) : CT → V → D → List Addr → L2.St → L2.St → Prop
  | name {i : Nat} {v : V} {d : D} {as : List Addr} {σ : L2.St} : Rp ca H v d as → AsgV ca H (.name i) v d as σ (σ.set i (some v))
  | tup {ts : CTs} {a : Addr} {xs : List V} {ds : List D} {as : List Addr} {σ σ' : L2.St} : AsgVs ca H ts xs ds as σ σ' → AsgV ca H (.tup ts) (.ref a) (.tuple ds) as σ σ'
inductive AsgVs (ca : Addr) (H : Hp) : CTs → List V → List D → List Addr → L2.St → L2.St → Prop
  | nil {σ : L2.St} : AsgVs ca H .nil [] [] [] σ σ
  | cons {t : CT} {r : CTs} {v : V} {vs : List V} {d : D} {ds : List D} {as bs : List Addr} {σ σ1 σ2 : L2.St} : AsgV ca H t v d as σ σ1 → AsgVs ca H r vs ds bs σ1 σ2 → AsgVs ca H (.cons t r) (v :: vs) (d :: ds) (as ++ bs) σ σ2
end
mutual
def shapeT : CT → D → Bool
  | .name _, _ => true
  | .tup ts, .tuple ds => shapeTs ts ds
  | .tup _, _ => false
def shapeTs : CTs → List D → Bool
  | .nil, [] => true
  | .cons t r, d :: ds => shapeT t d && shapeTs r ds
  | _, _ => false
end
mutual
def slotsT : CT → List Nat
  | .name i => [i]
  | .tup ts => slotsTs ts
def slotsTs : CTs → List Nat
  | .nil => []
  | .cons t r => slotsT t ++ slotsTs r
end
def tG (ct : CT) : TG := fun v σ H Q => ∃ ca d as, Rp ca H v d as ∧ shapeT ct d = true ∧ ∀ σ', AsgV ca H ct v d as σ σ' → Q σ' H
def tGs (ct : CTs) : TGs := fun vs σ H Q => ∃ ca ds as, RpAll ca H vs ds as ∧ shapeTs ct ds = true ∧ ∀ σ', AsgVs ca H ct vs ds as σ σ' → Q σ' H
structure AsnOk (X : Cx) (asn : Str → Bool) : Prop where
  ok : ∀ x, asn x = true → Loc X.env.scope x ∧ (X.fn x = true ∨ X.env.scope.names.lookup x = some .local)
section
variable {T : List FI} {N : List Str} {sx : Option Nat} {cf : CallF} {k : Nat} {X : Cx} {sc : Scope} {asn : Str → Bool}
theorem _root_.L2.PG.pvImp {X : Cx} {e : Expr} {t t' : TG} (h : PG X e t) (i : ∀ v σ H Q, t' v σ H Q → t v σ H Q) : PG X e t' := ⟨fun pins s σ H v u Q I r q => h.run pins s σ H v u Q I r (i v σ H Q q)⟩
theorem _root_.L2.PGs.pvImp {X : Cx} {e : List Expr} {t t' : TGs} (h : PGs X e t) (i : ∀ v σ H Q, t' v σ H Q → t v σ H Q) : PGs X e t' := ⟨fun pins s σ H v u Q I r q => h.run pins s σ H v u Q I r (i v σ H Q q)⟩
theorem chkTs_len : ∀ (ts : CTs) (es : List Expr), chkTs N asn ts es = true → ∀ ds, shapeTs ts ds = true → ds.length = es.length
  | .nil, [], _, [], _ => rfl
  | .nil, [], _, _ :: _, h => by simp [shapeTs] at h
  | .nil, _ :: _, h, _, _ => by simp [chkTs] at h
  | .cons _ _, [], h, _, _ => by simp [chkTs] at h
  | .cons _ _, _ :: _, _, [], h => by simp [shapeTs] at h
  | .cons t r, e :: es, h, d :: ds, h2 => by
    simp only [chkTs, Bool.and_eq_true] at h
    simp only [shapeTs, Bool.and_eq_true] at h2
    simp [chkTs_len r es h.2 ds h2.2]
theorem chkT_star : ∀ (t : CT) (e : Expr), chkT N asn t e = true → starE e = false
  | .name _, e, h => by cases e <;> first | rfl | simp [chkT] at h
  | .tup _, e, h => by cases e <;> first | rfl | simp [chkT] at h
theorem assignEach_cons {e : Expr} {es : List Expr} {env : PySem.Env} (h : starE e = false) : assignEach (e :: es) env = (false, assign e env) :: assignEach es env := by
  cases e <;> first | rfl | cases h
theorem chkTs_plain : ∀ (ts : CTs) (es : List Expr) (env : PySem.Env), chkTs N asn ts es = true → (assignEach es env).length = es.length ∧ (assignEach es env).findIdx? (·.1) = none
  | .nil, [], _, _ => ⟨rfl, rfl⟩
  | .nil, _ :: _, _, h => by simp [chkTs] at h
  | .cons _ _, [], _, h => by simp [chkTs] at h
  | .cons t r, e :: es, env, h => by
    simp only [chkTs, Bool.and_eq_true] at h
    obtain ⟨h1, h2⟩ := chkTs_plain r es env h.2
    rw [assignEach_cons (chkT_star t e h.1)]
    exact ⟨by simp [h1], by rw [List.findIdx?_cons]; simp [h2]⟩
mutual
theorem pg_ct (hN : X.N = N) (nd : N.Nodup) (hc : X.calm = true) (ha : AsnOk X asn) : ∀ (ct : CT) (e : Expr), chkT N asn ct e = true → PG X e (tG ct)
  | .name i, e, h => by
    cases e <;> first | (simp [chkT] at h; done) | skip
    rename_i x p
    simp only [chkT, Bool.and_eq_true] at h
    obtain ⟨h1, h2⟩ := ha.ok x h.2
    exact (pg_name (by rw [hN]; exact nd) (by rw [hN]; exact atN_ok h.1) h1 h2).pvImp fun v σ H Q ⟨ca, d, as, r, _, q⟩ => q _ (.name r)
  | .tup ts, e, h => by
    cases e <;> first | (simp [chkT] at h; done) | skip
    rename_i es kk p
    simp only [chkT] at h
    obtain ⟨l1, l2⟩ := chkTs_plain ts es X.env h
    refine (pg_tup (n := es.length) hc (pgs_ct hN nd hc ha ts es h) l1 l2).pvImp fun v σ H Q ⟨ca, d, as, r, sh, q⟩ => ?_
    cases d <;> first | (simp [shapeT] at sh; done) | skip
    rename_i ds
    cases r with
    | @tup a xs _ _ e1 rv =>
      exact ⟨a, xs, rfl, .of e1, by rw [rv.len]; exact chkTs_len ts es h ds (by simpa [shapeT] using sh), ca, ds, as, rv, by simpa [shapeT] using sh, fun σ' hs => q σ' (.tup hs)⟩
theorem pgs_ct (hN : X.N = N) (nd : N.Nodup) (hc : X.calm = true) (ha : AsnOk X asn) : ∀ (ct : CTs) (es : List Expr), chkTs N asn ct es = true → PGs X es (tGs ct)
  | .nil, [], _ => pgs_nil.pvImp fun vs σ H Q ⟨ca, ds, as, r, sh, q⟩ => by
    cases ds <;> first | (simp [shapeTs] at sh; done) | skip
    cases r
    exact ⟨rfl, q σ .nil⟩
  | .nil, _ :: _, h => by simp [chkTs] at h
  | .cons _ _, [], h => by simp [chkTs] at h
  | .cons t r, e :: es, h => by
    simp only [chkTs, Bool.and_eq_true] at h
    refine (pgs_cons (pg_ct hN nd hc ha t e h.1) (pgs_ct hN nd hc ha r es h.2) (by rw [assignEach_cons (chkT_star t e h.1)]; rfl)).pvImp fun vs σ H Q ⟨ca, ds, as, rv, sh, q⟩ => ?_
    cases ds <;> first | (simp [shapeTs] at sh; done) | skip
    rename_i d ds
    simp only [shapeTs, Bool.and_eq_true] at sh
    cases rv with
    | @cons v vs _ _ as bs r1 r2 => exact ⟨v, vs, rfl, ca, d, as, r1, sh.1, fun σ1 h1 => ⟨ca, ds, bs, r2, sh.2, fun σ2 h2 => q σ2 (.cons h1 h2)⟩⟩
end

/-! ### what a target does to slots without marks -/
mutual
theorem asgT_shape : ∀ (ct : CT) (d : D) (env env' : Env), asgT ct d env = some env' → shapeT ct d = true
  | .name _, _, _, _, _ => rfl
  | .tup ts, d, env, env', h => by
    cases d <;> simp only [asgT] at h <;> first | (cases h; done) | skip
    simp only [shapeT]
    exact asgTs_shape ts _ env env' h
theorem asgTs_shape : ∀ (ct : CTs) (d : List D) (env env' : Env), asgTs ct d env = some env' → shapeTs ct d = true
  | .nil, [], _, _, _ => rfl
  | .nil, _ :: _, _, _, h => by simp [asgTs] at h
  | .cons _ _, [], _, _, h => by simp [asgTs] at h
  | .cons t r, d :: ds, env, env', h => by
    simp only [asgTs] at h
    obtain ⟨e1, h1, h2⟩ := Option.bind_eq_some_iff.mp h
    simp only [shapeTs, asgT_shape t d env e1 h1, asgTs_shape r ds e1 env' h2, Bool.and_self]
end
mutual
theorem asgT_env {sa ca : Addr} {H : Hp} : ∀ (ct : CT) (v : V) (d : D) (as : List Addr) (σ σ' : L2.St) (env env' : Env) (F : Nat → List Addr), AsgV ca H ct v d as σ σ' → asgT ct d env = some env' → EnvAt none sa ca H env σ F →
    ∃ F', EnvAt none sa ca H env' σ' F' ∧ (∀ a, Al env' F' a → Al env F a ∨ a ∈ as) ∧ ∀ j, j ∉ slotsT ct → σ'[j]? = σ[j]?
  | .name i, v, d, as, σ, _, env, env', F, h, hm, he => by
    cases h with
    | name r =>
      simp only [asgT, setE, Option.some.injEq] at hm
      subst hm
      refine ⟨fun j => if j = i then as else F j, ⟨by simp [he.len], fun j d' e => ?_, fun _ z => nomatch z⟩, fun a ⟨j, d', e, ha⟩ => ?_, fun j hj => ?_⟩
      · by_cases hji : j = i
        · subst hji
          have hl : j < env.length := by
            have := (List.getElem?_eq_some_iff.mp e).1
            simpa using this
          rw [List.getElem?_set_self hl] at e
          cases e
          exact ⟨v, by rw [List.getElem?_set_self (by rw [← he.len]; exact hl)], by simpa using r⟩
        · rw [List.getElem?_set_ne (Ne.symm hji)] at e
          obtain ⟨u, e1, r1⟩ := he.at_ j d' e
          exact ⟨u, by rw [List.getElem?_set_ne (Ne.symm hji)]; exact e1, by simpa [hji] using r1⟩
      · by_cases hji : j = i
        · subst hji
          exact .inr (by simpa using ha)
        · rw [List.getElem?_set_ne (Ne.symm hji)] at e
          exact .inl ⟨j, d', e, by simpa [hji] using ha⟩
      · have hji : j ≠ i := by simpa [slotsT] using hj
        exact List.getElem?_set_ne (Ne.symm hji)
  | .tup ts, v, d, as, σ, σ', env, env', F, h, hm, he => by
    cases h with
    | tup hs =>
      simp only [asgT] at hm
      exact asgTs_env ts _ _ as σ σ' env env' F hs hm he
theorem asgTs_env {sa ca : Addr} {H : Hp} : ∀ (ct : CTs) (v : List V) (d : List D) (as : List Addr) (σ σ' : L2.St) (env env' : Env) (F : Nat → List Addr), AsgVs ca H ct v d as σ σ' → asgTs ct d env = some env' → EnvAt none sa ca H env σ F →
    ∃ F', EnvAt none sa ca H env' σ' F' ∧ (∀ a, Al env' F' a → Al env F a ∨ a ∈ as) ∧ ∀ j, j ∉ slotsTs ct → σ'[j]? = σ[j]?
  | .nil, _, _, _, σ, _, env, env', F, h, hm, he => by
    cases h
    simp only [asgTs, Option.some.injEq] at hm
    subst hm
    exact ⟨F, he, fun a h => .inl h, fun _ _ => rfl⟩
  | .cons t r, _, _, _, σ, σ', env, env', F, h, hm, he => by
    cases h with
    | @cons _ _ v vs d ds as bs _ σ1 _ h1 h2 =>
      simp only [asgTs] at hm
      obtain ⟨env1, m1, m2⟩ := Option.bind_eq_some_iff.mp hm
      obtain ⟨F1, e1, a1, s1⟩ := asgT_env t v d as σ σ1 env env1 F h1 m1 he
      obtain ⟨F2, e2, a2, s2⟩ := asgTs_env r vs ds bs σ1 σ' env1 env' F1 h2 m2 e1
      refine ⟨F2, e2, fun a ha => ?_, fun j hj => ?_⟩
      · rcases a2 a ha with z | z
        · exact (a1 a z).imp_right (List.mem_append_left _)
        · exact .inr (List.mem_append_right _ z)
      · simp only [slotsTs, List.mem_append, not_or] at hj
        rw [s2 j hj.2, s1 j hj.1]
end
end
end PV

/-! PV, part K: list comprehensions; the expressions' theorem. -/
namespace PV
open PySem PySem.Spec PyProof.Rows L2

def tCd (sx : Option Nat) (m : Env → Src → Option (Bool × Src)) : TT := fun σ H Q => ∃ sa ca env s F b s', SrcAt sa ca s H ∧ EnvAt sx sa ca H env σ F ∧ m env s = some (b, s') ∧ ∀ H', Grow sa ca H H' → SrcAt sa ca s' H' → Q b H'
theorem _root_.L2.PTs.pvImp {X : Cx} {e : List Expr} {t t' : TT} (h : PTs X e t) (i : ∀ σ H Q, t' σ H Q → t σ H Q) : PTs X e t' := ⟨fun pins s σ H Q I q => h.run pins s σ H Q I (i σ H Q q)⟩
section
variable {T : List FI} {N : List Str} {sx : Option Nat} {cf : CallF} {k : Nat} {X : Cx} {sc : Scope} {asn : Str → Bool}
theorem c_no : PTs X [] (tCd sx (runC cf .no)) := pts_nil.pvImp fun σ H Q ⟨sa, ca, env, s, F, b, s', hs, he, hm, q⟩ => by
  simp only [runC] at hm
  cases hm
  exact q H .refl hs
theorem c_so {a : CE} {e : Expr} (h : PT X e (tT sx (run cf a))) : PTs X [e] (tCd sx (runC cf (.so a))) := (pts_one h).pvImp fun σ H Q ⟨sa, ca, env, s, F, b, s', hs, he, hm, q⟩ => by
  simp only [runC] at hm
  split at hm
  · rename_i b' fx s1 h1
    simp only [Option.some.injEq, Prod.mk.injEq] at hm
    obtain ⟨rfl, rfl⟩ := hm
    exact ⟨sa, ca, env, s, F, b', fx, s1, hs, he, h1, q⟩
  · cases hm

/-! ### wiping -/
theorem wipe_in : ∀ {vs : List Nat} {σ : L2.St} {j : Nat}, j ∈ vs → (wipe σ vs)[j]? = if j < σ.length then some none else none
  | v :: vs, σ, j, h => by
    unfold wipe
    by_cases hj : v = j
    · subst hj
      by_cases hl : v < σ.length
      · rw [List.getElem?_set_self (by rw [wipe_length]; exact hl), if_pos hl]
      · rw [List.getElem?_eq_none (by rw [List.length_set, wipe_length]; omega), if_neg hl]
    · rw [List.getElem?_set_ne hj]
      exact wipe_in ((List.mem_cons.mp h).resolve_left (fun z => hj z.symm))
theorem wipe_ext {vs : List Nat} {σ σ2 : L2.St} (hl : σ2.length = σ.length) (h : ∀ j, j ∉ vs → σ2[j]? = σ[j]?) : wipe σ2 vs = wipe σ vs := by
  apply List.ext_getElem?
  intro j
  by_cases hj : j ∈ vs
  · rw [wipe_in hj, wipe_in hj, hl]
  · rw [wipe_out hj, wipe_out hj, h j hj]
theorem wipeE_length (env : Env) : ∀ vs : List Nat, (wipeE env vs).length = env.length
  | [] => rfl
  | v :: vs => by unfold wipeE; rw [List.length_set, wipeE_length env vs]
theorem wipeE_some {env : Env} {i : Nat} {d : D} : ∀ {vs : List Nat}, (wipeE env vs)[i]? = some (some d) → env[i]? = some (some d) ∧ i ∉ vs
  | [], h => ⟨h, by simp⟩
  | v :: vs, h => by
    unfold wipeE at h
    by_cases hi : v = i
    · subst hi
      by_cases hv : v < (wipeE env vs).length
      · rw [List.getElem?_set_self hv] at h; cases h
      · rw [List.getElem?_eq_none (by simpa using hv)] at h; cases h
    · rw [List.getElem?_set_ne hi] at h
      obtain ⟨h1, h2⟩ := wipeE_some h
      exact ⟨h1, by simp only [List.mem_cons, not_or]; exact ⟨fun z => hi z.symm, h2⟩⟩
theorem EnvAt.wipe {sa ca : Addr} {H : Hp} {env : Env} {σ : L2.St} {F : Nat → List Addr} {vs : List Nat} (e : EnvAt sx sa ca H env σ F) : EnvAt none sa ca H (wipeE env vs) (L2.wipe σ vs) F :=
  ⟨by rw [wipeE_length, wipe_length, e.len], fun i d h => by
    obtain ⟨h1, h2⟩ := wipeE_some h
    obtain ⟨v, e1, r⟩ := e.at_ i d h1
    exact ⟨v, by rw [wipe_out h2]; exact e1, r⟩, fun _ z => nomatch z⟩
theorem Al.wipe {env : Env} {F : Nat → List Addr} {vs : List Nat} {a : Addr} (h : Al (wipeE env vs) F a) : Al env F a := let ⟨i, d, h1, h2⟩ := h; ⟨i, d, (wipeE_some h1).1, h2⟩
mutual
theorem AsgV.len {ca : Addr} {H : Hp} : ∀ (ct : CT) {v : V} {d : D} {as : List Addr} {σ σ' : L2.St}, AsgV ca H ct v d as σ σ' → σ'.length = σ.length
  | .name _, _, _, _, _, _, h => by cases h; simp
  | .tup ts, _, _, _, _, _, h => by
    cases h with
    | tup h => exact AsgVs.len ts h
theorem AsgVs.len {ca : Addr} {H : Hp} : ∀ (ct : CTs) {v : List V} {d : List D} {as : List Addr} {σ σ' : L2.St}, AsgVs ca H ct v d as σ σ' → σ'.length = σ.length
  | .nil, _, _, _, _, _, h => by cases h; rfl
  | .cons t r, _, _, _, _, _, h => by
    cases h with
    | cons h1 h2 => rw [AsgVs.len r h2, AsgV.len t h1]
end
mutual
theorem slots_own (nd : N.Nodup) {own : List (Str × Nat)} (hix : ∀ p ∈ own, N[p.2]? = some p.1) : ∀ (ct : CT) (e : Expr), chkT N (fun x => (own.map (·.1)).contains x) ct e = true → ∀ j ∈ slotsT ct, j ∈ own.map (·.2)
  | .name i, e, h, j, hj => by
    cases e <;> first | (simp [chkT] at h; done) | skip
    rename_i x p
    simp only [chkT, Bool.and_eq_true, List.contains_eq_mem, decide_eq_true_eq] at h
    simp only [slotsT, List.mem_singleton] at hj
    subst hj
    obtain ⟨q, hq, e⟩ := List.mem_map.mp h.2
    have h1 := hix q hq
    rw [e] at h1
    rw [nodup_ix nd (atN_ok h.1) h1]
    exact List.mem_map_of_mem hq
  | .tup ts, e, h, j, hj => by
    cases e <;> first | (simp [chkT] at h; done) | skip
    simp only [chkT] at h
    exact slots_owns nd hix ts _ h j (by simpa [slotsT] using hj)
theorem slots_owns (nd : N.Nodup) {own : List (Str × Nat)} (hix : ∀ p ∈ own, N[p.2]? = some p.1) : ∀ (ct : CTs) (e : List Expr), chkTs N (fun x => (own.map (·.1)).contains x) ct e = true → ∀ j ∈ slotsTs ct, j ∈ own.map (·.2)
  | .nil, _, _, j, hj => by simp [slotsTs] at hj
  | .cons _ _, [], h, _, _ => by simp [chkTs] at h
  | .cons t r, e :: es, h, j, hj => by
    simp only [chkTs, Bool.and_eq_true] at h
    simp only [slotsTs, List.mem_append] at hj
    rcases hj with hj | hj
    · exact slots_own nd hix t e h.1 j hj
    · exact slots_owns nd hix r es h.2 j hj
end
theorem ownSx_ok {own : List (Str × Nat)} (h : ownSx sx own = true) : ∀ i, sx = some i → i ∉ own.map (·.2) := fun i e hm => by
  subst e
  simp only [ownSx, List.all_eq_true, Bool.not_eq_true', beq_eq_false_iff_ne] at h
  obtain ⟨p, hp, e⟩ := List.mem_map.mp hm
  exact h p hp e
theorem blk_asn {scope : Scope} {own : List (Str × Nat)} (x0 : XOk T N cf k X sc) (ho : ownLoc scope own = true) (s : Shared) (H : Hp) (C : Addr) (cl : List (Str × Addr)) (fp : List Addr) :
    AsnOk (X.blk s H scope (compEnvC scope cl C X.env) fp) (fun x => (own.map (·.1)).contains x) := ⟨fun x hx => by
  have hx' : x ∈ own.map (·.1) := by simpa using hx
  obtain ⟨p, hp, rfl⟩ := List.mem_map.mp hx'
  have h := (List.all_eq_true.mp ho) p hp
  have sce : (X.blk s H scope (compEnvC scope cl C X.env) fp).env.scope = relS scope sc := by show relabel scope X.env = _; rw [← x0.scp]; rfl
  rw [sce]
  split at h
  · rename_i e
    exact ⟨.inl (lookup_relS_keep (by decide) e), .inr (lookup_relS_keep (by decide) e)⟩
  · rename_i e
    refine ⟨.inr (lookup_relS_keep (by decide) e), .inl ?_⟩
    show (scope.names.lookup p.1 == some .cell) = true
    rw [e]; rfl
  · cases h⟩

/-! ### the comprehension -/
theorem lcGo_cons {f : D → Src → Option (Option (D × Bool) × Src)} {d : D} {r : List D} {s s2 : Src} {xs : List D} {fr : Bool} (h : lcGo f (d :: r) s = some (xs, fr, s2)) :
    ∃ o s1, f d s = some (o, s1) ∧ match o with
      | none => lcGo f r s1 = some (xs, fr, s2)
      | some (y, fy) => ∃ ys fs, lcGo f r s1 = some (ys, fs, s2) ∧ xs = y :: ys ∧ fr = ((fy || noL y) && fs) := by
  simp only [lcGo] at h
  split at h
  · cases h
  · rename_i s1 e
    exact ⟨none, s1, e, h⟩
  · rename_i y fy s1 e
    refine ⟨some (y, fy), s1, e, ?_⟩
    split at h
    · cases h
    · rename_i ys fs s3 e2
      simp only [Option.some.injEq, Prod.mk.injEq] at h
      obtain ⟨rfl, rfl, rfl⟩ := h
      exact ⟨ys, fs, e2, rfl, rfl⟩
theorem lcTurn_ok {g : D → Option Env} {c : Env → Src → Option (Bool × Src)} {e : Env → Src → Option (D × Bool × Src)} {d : D} {s s1 : Src} {o : Option (D × Bool)} (h : lcTurn g c e d s = some (o, s1)) :
    ∃ env b s0, g d = some env ∧ c env s = some (b, s0) ∧ if b = true then ∃ y fy, e env s0 = some (y, fy, s1) ∧ o = some (y, fy) else o = none ∧ s1 = s0 := by
  unfold lcTurn at h
  split at h
  · rename_i env eg
    split at h
    · rename_i s0 ec
      split at h
      · rename_i y fy s2 ee
        simp only [Option.some.injEq, Prod.mk.injEq] at h
        obtain ⟨rfl, rfl⟩ := h
        exact ⟨env, true, s0, eg, ec, iteT ⟨y, fy, ee, rfl⟩⟩
      · cases h
    · rename_i s0 ec
      simp only [Option.some.injEq, Prod.mk.injEq] at h
      obtain ⟨rfl, rfl⟩ := h
      exact ⟨env, false, s0, eg, ec, iteF ⟨rfl, rfl⟩⟩
    · cases h
  · cases h
theorem same_dom {H H' : Hp} (h : Same H H') {a : Addr} (e : H' a = none) : H a = none := by
  cases q : H a with
  | none => rfl
  | some o => rw [h a o q] at e; cases e
theorem g_lc {own : List (Str × Nat)} {tg : CT} {it : CI} {c : CO} {e : CE} {elt t i : Expr} {ifs : List Expr} {scope : Scope} {pos : Pos} (x0 : XOk T N cf k X sc) (hb : blkC N sc scope own = true) (hol : ownLoc scope own = true) (hsx : ownSx sx own = true)
    (ht : chkT N (fun x => (own.map (·.1)).contains x) tg t = true) (hi : PI X t i (tI sx (runI cf it)))
    (hc : ∀ (s : Shared) (H : Hp) (C : Addr) (cl : List (Str × Addr)) (fp : List Addr), PTs (X.blk s H scope (compEnvC scope cl C X.env) fp) ifs (tCd sx (runC cf c)))
    (he : ∀ (s : Shared) (H : Hp) (C : Addr) (cl : List (Str × Addr)) (fp : List Addr), PE (X.blk s H scope (compEnvC scope cl C X.env) fp) elt (tE sx (run cf e)))
    (hs0 : ∀ x, foldedSetIterable i X.env x = pure x) : GE sx X (.ListComp elt [⟨t, i, ifs, 0⟩] scope pos) (run cf (.lc own tg it c e)) ∧
    ∀ σ H Q, tE sx (run cf (.lc own tg it c e)) σ H Q → tLc (tI sx (runI cf it)) (tG tg) (tCd sx (runC cf c)) (tE sx (run cf e)) (own.map (·.2)) σ H Q := by
  have ok : BlkOk N sc scope own := blkOk_by hb
  have key : ∀ σ H Q, tE sx (run cf (.lc own tg it c e)) σ H Q → tLc (tI sx (runI cf it)) (tG tg) (tCd sx (runC cf c)) (tE sx (run cf e)) (own.map (·.2)) σ H Q := by
    intro σ H Q ⟨sa, ca, env, s, F, d, fr, s', hs, hev, hm, q⟩
    simp only [run] at hm
    split at hm
    · rename_i ds fi s1 h1
      split at hm
      · rename_i hz
        split at hm
        · rename_i xs fx s2 h2
          simp only [Option.some.injEq, Prod.mk.injEq] at hm
          obtain ⟨rfl, rfl, rfl⟩ := hm
          have hz' : ds.length ≤ sizeLine := of_decide_eq_true hz
          refine ⟨sa, ca, env, s, F, ds, fi, s1, hs, hev, h1, fun J H1 as rI => ?_⟩
          intro D hD
          have nD : D ≠ sa ∧ D ≠ ca := ⟨fun z => (by rw [z, rI.src.1] at hD; cases hD), fun z => (by rw [z, rI.src.2] at hD; cases hD)⟩
          generalize hf : lcTurn (fun d => asgT tg d (wipeE env (own.map (·.2)))) (runC cf c) (run cf e) = f at h2
          have hA : EnvAt sx sa ca H1 env σ F := hev.grow hs rI.g
          -- the invariant
          refine lc_it rI.walk (fun i H' => ∃ aV aD bs fA si rest fr', lcGo f (ds.drop i) si = some (rest, fr', s2) ∧ aD ++ rest = xs ∧ (fA && fr') = fx ∧ aV.length ≤ i ∧ H' D = some (.lst aV) ∧ RpAll ca H' aV aD bs ∧ D ∉ bs ∧
            (fA = true → bs.Nodup ∧ ∀ a ∈ bs, H a = none) ∧ (∀ a ∈ bs, H a = none ∨ Al env F a) ∧ Grow sa ca H1 H' ∧ SrcAt sa ca si H') ?_ ?_ ?_ ?_
          · exact ⟨[], [], [], true, s1, xs, fx, by simpa using h2, rfl, rfl, Nat.le_refl _, upd_same, .nil, by simp, fun _ => ⟨List.nodup_nil, by simp⟩, by simp, .new hD, rI.src.new hD⟩
          · rintro j H' _ ⟨aV, aD, bs, fA, si, rest, fr', _, _, _, _, _, _, _, _, _, g, _⟩
            refine ⟨fun a ha => ?_, fun a xs e => g.tup a xs e⟩
            obtain ⟨n, zs, e⟩ := rI.trk a ha
            have ns : a ≠ sa := by rintro rfl; rw [rI.src.1] at e; cases e
            rw [e]; exact g.keep a _ ns n e
          · rintro j x H2 H3 hj ⟨aV, aD, bs, fA, si, rest, fr', hgo, hxs, hfr, hlen, hDv, hrp, hDb, hfresh, hal, g, hsrc⟩ ⟨dj, cs, edj, hsame, hrx, hsub⟩
            have hdrop : ds.drop j = dj :: ds.drop (j + 1) := by
              obtain ⟨hlt, e⟩ := List.getElem?_eq_some_iff.mp edj
              rw [List.drop_eq_getElem_cons hlt, e]
            rw [hdrop] at hgo
            obtain ⟨o, sj, hfd, hrest⟩ := lcGo_cons hgo
            rw [← hf] at hfd
            obtain ⟨env2, b, s0, hasg, hcnd, hb2⟩ := lcTurn_ok hfd
            rw [hf] at hfd
            -- the heap with the item
            have g13 : Grow sa ca H1 H3 := g.trans ⟨fun a o _ _ e => hsame a o e, fun a e => same_dom hsame e, fun a xs e => hsame a _ e⟩
            have src3 : SrcAt sa ca si H3 := ⟨hsame _ _ hsrc.1, hsame _ _ hsrc.2⟩
            have D3 : H3 D = some (.lst aV) := hsame D _ hDv
            have rp3 : RpAll ca H3 aV aD bs := hrp.mono (fun a xs e => hsame a _ e) fun a ha => by
              obtain ⟨_, zs, e⟩ := hrp.trk a ha
              rw [e]; exact hsame a _ e
            have hA3 : EnvAt sx sa ca H3 env σ F := hA.grow rI.src g13
            refine ⟨ca, dj, cs, hrx, asgT_shape _ _ _ _ hasg, fun σ2 hV => ?_⟩
            obtain ⟨F2, e2, a2, sl2⟩ := asgT_env (sa := sa) tg x dj cs (L2.wipe σ (own.map (·.2))) σ2 _ env2 F hV hasg hA3.wipe
            have own2 := slots_own x0.nd ok.ix tg t ht
            have sl : ∀ j, j ∉ own.map (·.2) → σ2[j]? = σ[j]? := fun j hj => by
              rw [sl2 j (fun z => hj (own2 j z)), wipe_out hj]
            have e2' : EnvAt sx sa ca H3 env2 σ2 F2 := ⟨e2.len, e2.at_, fun i hi => by rw [sl i (ownSx_ok hsx i hi)]; exact hA3.sx i hi⟩
            have al2 : ∀ a, Al env2 F2 a → H a = none ∨ Al env F a := fun a ha => by
              rcases a2 a ha with z | z
              · exact .inr z.wipe
              · exact rI.al a (hsub a z)
            have neD : ∀ a, Al env2 F2 a → a ≠ D := fun a ha z => by
              subst z
              rcases a2 a ha with y | y
              · obtain ⟨i, d, h1, h2⟩ := y.wipe
                obtain ⟨v, _, r⟩ := hA.at_ i d h1
                exact trk_ne r a h2 hD
              · obtain ⟨_, zs, e⟩ := rI.trk a (hsub a y)
                rw [hD] at e; cases e
            refine ⟨wipe_ext (by rw [AsgV.len tg hV, wipe_length]) sl, sa, ca, env2, si, F2, b, s0, src3, e2', hcnd, fun H4 g4 src4 => ?_⟩
            have D4 : H4 D = some (.lst aV) := g4.keep D _ nD.1 nD.2 D3
            refine ite2 (fun hb => ?_) (fun hb => ?_)
            · rw [if_pos hb] at hb2
              obtain ⟨y, fy, hrun, rfl⟩ := hb2
              obtain ⟨ys, fs, hgo2, rfl, rfl⟩ := hrest
              refine ⟨sa, ca, env2, s0, F2, y, fy, sj, src4, e2'.grow src3 g4, hrun, fun v H5 es r5 => ?_⟩
              have D5 : H5 D = some (.lst aV) := r5.g.keep D _ nD.1 nD.2 D4
              have g15 : Grow sa ca H1 H5 := g13.trans (g4.trans r5.g)
              have rp5 : RpAll ca H5 aV aD bs := rp3.grow src3 (g4.trans r5.g)
              have neE : ∀ a ∈ es, a ≠ D := fun a ha z => by
                rcases r5.al a ha with n | n
                · rw [z, D4] at n; cases n
                · exact neD a n z
              have toU : ∀ a xs, H5 a = some (.tup xs) → upd H5 D (.lst (aV ++ [v])) a = some (.tup xs) := fun a xs e => by
                rw [upd_ne (fun z => by rw [z, D5] at e; cases e)]; exact e
              refine ⟨aV, D5, Nat.lt_of_le_of_lt hlen (Nat.lt_of_lt_of_le hj hz'), aV ++ [v], aD ++ [y], bs ++ (es ++ []), fA && (fy || noL y), sj, ys, fs, hgo2, by simpa using hxs, by rw [← hfr, Bool.and_assoc], by simp; omega, upd_same, ?_, ?_, ?_, ?_, ?_, ?_⟩
              · refine RpAll.append (rp5.mono toU fun a ha => upd_ne fun z => hDb (z ▸ ha)) (.cons (r5.rp.mono toU fun a ha => upd_ne (neE a ha)) .nil)
              · simp only [List.append_nil, List.mem_append, not_or]
                exact ⟨hDb, fun z => neE D z rfl⟩
              · intro hfa
                obtain ⟨f1, f2⟩ := (Bool.and_eq_true _ _).mp hfa
                rw [List.append_nil]
                exact nd_two (hfresh f1) (fr_or r5.rp r5.fr f2) (trks_ne (rp3.grow src3 g4)) fun a n => rI.g.dom a (g13.dom a (g4.dom a n))
              · intro a ha
                rw [List.append_nil] at ha
                rcases List.mem_append.mp ha with ha | ha
                · exact hal a ha
                · rcases r5.al a ha with n | n
                  · exact .inl (rI.g.dom a (g13.dom a (g4.dom a n)))
                  · exact al2 a n
              · refine ⟨fun a o h1 h2 e => ?_, fun a e => ?_, fun a xs e => ?_⟩
                · rw [upd_ne (fun z => by rw [z, hD] at e; cases e)]
                  exact g15.keep a o h1 h2 e
                · by_cases z : a = D
                  · rw [z]; exact hD
                  · rw [upd_ne z] at e; exact g15.dom a e
                · rw [upd_ne (fun z => by rw [z, hD] at e; cases e)]
                  exact g15.tup a xs e
              · exact ⟨by rw [upd_ne (Ne.symm nD.1)]; exact r5.src.1, by rw [upd_ne (Ne.symm nD.2)]; exact r5.src.2⟩
            · rw [if_neg hb] at hb2
              obtain ⟨rfl, rfl⟩ := hb2
              exact ⟨aV, aD, bs, fA, sj, rest, fr', hrest, hxs, hfr, Nat.le_succ_of_le hlen, D4, rp3.grow src3 g4, hDb, hfresh, hal, g13.trans g4, src4⟩
          · rintro H' ⟨aV, aD, bs, fA, si, rest, fr', hgo, hxs, hfr, hlen, hDv, hrp, hDb, hfresh, hal, g, hsrc⟩
            rw [List.drop_length] at hgo
            simp only [lcGo, Option.some.injEq, Prod.mk.injEq] at hgo
            obtain ⟨rfl, rfl, rfl⟩ := hgo
            rw [List.append_nil] at hxs
            subst hxs
            rw [Bool.and_true] at hfr
            subst hfr
            refine q _ H' (D :: bs) ⟨rI.g.trans g, hsrc, .lst hDv nD.2 hrp, fun h => ?_, fun a ha => ?_⟩
            · have f := hfresh h
              refine ⟨List.nodup_cons.mpr ⟨hDb, f.1⟩, fun a ha => ?_⟩
              rcases List.mem_cons.mp ha with rfl | ha
              · exact rI.g.dom a hD
              · exact f.2 a ha
            · rcases List.mem_cons.mp ha with rfl | ha
              · exact .inl (rI.g.dom a hD)
              · exact hal a ha
        · cases hm
      · cases hm
    · cases hm
  refine ⟨ge_def ?_ (fun _ => rfl) (fun _ _ _ z => nomatch z), key⟩
  exact (pe_lc (own := own) x0.calm (by rw [x0.nm]; exact x0.nd) hi (by rw [x0.nm, x0.scp]; exact ok) (fun s H C cl fp => pg_ct (x0.blk ok.kind s H C cl fp).nm x0.nd x0.calm (blk_asn x0 hol s H C cl fp) tg t ht) hc he hs0).pvImp key

/-! ### the source is read -/
theorem andK {a b : Bool} (h : (a && b) = true) : a = true ∧ b = true := (Bool.and_eq_true _ _).mp h
theorem srcArg_ok {n : Str} {p : Pos} (x0 : XOk T N cf k X sc) (h : srcArg N sx sc (.Name n p) = true) : ∃ i, sx = some i ∧ PE X (.Name n p) (tVar i) := by
  cases sx with
  | none => simp [srcArg] at h
  | some i =>
    simp only [srcArg] at h
    obtain ⟨h, h3⟩ := andK h
    obtain ⟨h1, h2⟩ := andK h
    obtain ⟨o1, o2, _⟩ := okName_ok h3
    exact ⟨i, rfl, pe_var (by rw [x0.nm]; exact atN_ok h1) (by rw [x0.scp]; exact isVis_ok h2) o1 o2⟩
theorem src_val {sa ca : Addr} {s : Src} {H : Hp} (x : SrcAt sa ca s H) (f : SF) : DGet H sa (.str (kF f)) (some (.int (s.get f))) := by
  have := DGet.k (k := .inr (kF f)) x.1
  cases f <;> exact this
theorem src_cells {sa ca : Addr} {s : Src} {H : Hp} (x : SrcAt sa ca s H) : DGet H sa (.str ("cells" : Str)) (some (.ref ca)) := DGet.k (k := kCells) x.1
theorem g_sInt {f : SF} {n key : Str} {p p2 pos : Pos} {kk : Nat} (x0 : XOk T N cf k X sc) (hk : key = kF f) (h : srcArg N sx sc (.Name n p) = true) : GE sx X (.Subscript (.Name n p) (.Constant (.str key) kk p2) pos) (run cf (.sInt f)) := by
  subst hk
  obtain ⟨i, rfl, hv⟩ := srcArg_ok x0 h
  refine ge_def ?_ (fun _ => rfl) (fun _ _ _ z => nomatch z)
  refine (pe_dget (by have := x0.hu; omega) hv pe_str (fun _ _ => rfl)).pvImp fun σ H Q ⟨sa, ca, env, s, F, d, fr, s', hs, he, hm, q⟩ => ?_
  simp only [run] at hm
  cases hm
  exact ⟨.ref sa, he.sx i rfl, sa, _, rfl, src_val hs f, q _ H [] (.flat .refl hs (.int _))⟩
theorem g_sCnt {n key g : Str} {p0 p p2 p3 pos : Pos} {kk : Nat} (x0 : XOk T N cf k X sc) (hg : g = "len") (hgl : isGl sc g = true) (hk : key = "cells") (h : srcArg N sx sc (.Name n p) = true) : GE sx X (.Call (.Name g p0) [.Subscript (.Name n p) (.Constant (.str key) kk p2) p3] [] pos) (run cf .sCnt) := by
  subst hk
  subst hg
  obtain ⟨i, rfl, hv⟩ := srcArg_ok x0 h
  refine ge_def ?_ (fun _ => rfl) (fun _ _ _ z => nomatch z)
  refine (pe_callB call_len (gl_ok x0 hgl) (x0.gl _ (by simp [bnames])) boot_len (pa_cons (pe_dget (by have := x0.hu; omega) hv pe_str (fun _ _ => rfl)) pa_nil)).pvImp fun σ H Q ⟨sa, ca, env, s, F, d, fr, s', hs, he, hm, q⟩ => ?_
  simp only [run] at hm
  cases hm
  refine ⟨.ref sa, he.sx i rfl, sa, _, rfl, src_cells hs, _, _, rfl, .inl ⟨_, SqL.of hs.2, rfl⟩, ?_⟩
  rw [List.length_map]
  exact q _ H [] (.flat .refl hs (.int _))

/-! ### xs.index(y) -/
theorem fstIx_ok {d : D} : ∀ {xs : List D} {j : Nat}, fstIx d xs = some j → ∃ z, xs[j]? = some z ∧ PyData.eqv z d = true ∧ ∀ (m : Nat) (z' : D), m < j → xs[m]? = some z' → PyData.eqv z' d = false
  | [], _, h => by simp [fstIx] at h
  | z :: r, j, h => by
    simp only [fstIx] at h
    split at h
    · rename_i e
      cases h
      exact ⟨z, rfl, e, fun m z' hm => by omega⟩
    · rename_i e
      obtain ⟨k, hk, rfl⟩ := Option.map_eq_some_iff.mp h
      obtain ⟨w, h1, h2, h3⟩ := fstIx_ok hk
      refine ⟨w, by simpa using h1, h2, fun m z' hm hz => ?_⟩
      cases m with
      | zero =>
        simp only [List.getElem?_cons_zero, Option.some.injEq] at hz
        subst hz
        simpa using e
      | succ m => exact h3 m z' (by omega) (by simpa using hz)
theorem g_idx {i : Nat} {b : CE} {n m : Str} {pn ap cp : Pos} {x : Expr} (x0 : XOk T N cf k X sc) (h1 : atN N i n = true) (h2 : isVis sc n = true) (h3 : okName n = true) (hm0 : m = "index") (hl : (ap.endLine == cp.line) = true) (hst : starE x = false) (hb : GE sx X x (run cf b)) :
    GE sx X (.Call (.Attribute (.Name n pn) m ap) [x] [] cp) (run cf (.idx i b)) := by
  subst hm0
  obtain ⟨o1, o2, _⟩ := okName_ok h3
  have e1 : ∀ env, starEach [x] env = [(false, eval x env)] := fun env => starEach_cons hst
  have hv : PE X (.Name n pn) (tVar i) := pe_var (by rw [x0.nm]; exact atN_ok h1) (by rw [x0.scp]; exact isVis_ok h2) o1 o2
  refine ge_def ?_ (fun _ => rfl) (fun _ _ _ z => nomatch z)
  refine (pe_bm PySem.F.plainAttrs_list PySem.F.slot_list_index PySem.F.type_list_index (mt_indexD (by have := x0.hu; omega)) hv (pa_cons hb.pe pa_nil (e1 _)) rfl (by rw [e1]; rfl) hl (e1 _) rfl).pvImp fun σ H Q ⟨sa, ca, env, s, F, d, fr, s', hs, he, hm, q⟩ => ?_
  simp only [run] at hm
  split at hm <;> first | (cases hm; done) | skip
  rename_i d0 f0 s1 hr
  split at hm <;> first | (cases hm; done) | skip
  rename_i xs hxs
  split at hm <;> first | (cases hm; done) | skip
  rename_i hsh
  obtain ⟨sd, sl⟩ := (Bool.and_eq_true _ _).mp hsh
  obtain ⟨j, hj, e⟩ := Option.map_eq_some_iff.mp hm
  cases e
  obtain ⟨v, ev, rv⟩ := he.at_ i _ hxs
  have rv0 := rv
  generalize F i = fi at rv rv0
  cases rv with
  | @lst p ys _ as e2 n1 ra =>
    refine ⟨.ref p, ev, .inl ⟨rfl, _, SqL.of e2⟩, sa, ca, env, s, F, d0, f0, s', hs, he, hr, fun w H1 bs r1 => ?_⟩
    obtain ⟨z, g1, g2, g3⟩ := fstIx_ok hj
    exact ⟨p, w, d0, xs, j, z, rfl, rfl, (rv0.grow hs r1.g).dp, r1.rp.dp, sl, sd, g1, g2, g3, q _ H1 [] (.flat r1.g r1.src (.int _))⟩

/-! ### list(range(..)), tuple(range(..)) -/
theorem rp_ints {ca : Addr} {H : Hp} (f : Nat → Int) : ∀ l : List Nat, RpAll ca H (l.map fun i => V.int (f i)) (l.map fun i => .int (f i)) []
  | [] => .nil
  | i :: r => by
    have := RpAll.cons (Rp.int (ca := ca) (H := H) (f i)) (rp_ints f r)
    simpa using this
theorem noLs_rg {i : Int} {n : Nat} : noLs (rangeD i n) = true := by
  unfold rangeD
  generalize List.range n = l
  induction l with
  | nil => simp [noLs]
  | cons a r ih => rw [List.map_cons]; simp [noLs, noL, ih]
theorem rg_ok {i j : Int} (h : (okRg i j && fitsLine (j - i).toNat) = true) : RgOk i j := by
  obtain ⟨h1, h2⟩ := andK h
  obtain ⟨a1, a2, a3, a4⟩ := okRg_ok h1
  have : (j - i).toNat ≤ sizeLine := of_decide_eq_true h2
  rw [sizeLine_eq] at this
  exact ⟨a1, a2, a3, a4, by omega⟩
theorem rl_res {sa ca : Addr} {s1 : Src} {H H1 : Hp} {env : Env} {F : Nat → List Addr} {t : Bool} {i j : Int} {p : Addr} {o : HO} (g : Grow sa ca H H1) (x : SrcAt sa ca s1 H1) (hp : H1 p = none)
    (ho : (t = true ∧ o = .tup (rgV i j)) ∨ (t = false ∧ o = .lst (rgV i j))) : ∃ as, Res sa ca H env F (seqOf t (rangeD i (j - i).toNat)) true s1 (.ref p) (upd H1 p o) as := by
  have rp := rp_ints (ca := ca) (H := upd H1 p o) (fun k => i + (k : Nat)) (List.range (j - i).toNat)
  have nca : p ≠ ca := fun z => by rw [z, x.2] at hp; cases hp
  rcases ho with ⟨rfl, rfl⟩ | ⟨rfl, rfl⟩
  · exact ⟨[], .flat (g.trans (.new hp)) (x.new hp) (.tup upd_same rp)⟩
  · exact ⟨[p], g.trans (.new hp), x.new hp, .lst upd_same nca rp, fun _ => ⟨nd1, fun a ha => by rw [List.mem_singleton.mp ha]; exact g.dom p hp⟩, fun a ha => by rw [List.mem_singleton.mp ha]; exact .inl (g.dom p hp)⟩
theorem g_rl1 {t : Bool} {a : CE} {x : Expr} {g g2 : Str} {p p2 p3 pos : Pos} (x0 : XOk T N cf k X sc) (hg : g = seqN t) (hgl : isGl sc g = true) (hg2 : g2 = "range") (hgl2 : isGl sc g2 = true) (ha : GE sx X x (run cf a)) (s1 : starE x = false) :
    GE sx X (.Call (.Name g p) [.Call (.Name g2 p2) [x] [] p3] [] pos) (run cf (.rl1 t a)) := by
  subst hg hg2
  refine ge_def ?_ (fun _ => rfl) (fun _ _ _ z => nomatch z)
  have pr := prg_1 (p := p2) (pos := p3) (gl_ok x0 hgl2) (x0.gl _ (by simp [bnames])) ha.pe (starEach_cons s1)
  have fin : ∀ σ H Q, tE sx (run cf (.rl1 t a)) σ H Q → tE sx (run cf a) σ H fun x H1 => ∃ n, x = .int n ∧ RgOk 0 n ∧ ∀ q o, H1 q = none → ((t = true ∧ o = .tup (rgV 0 n)) ∨ (t = false ∧ o = .lst (rgV 0 n))) → Q (.ref q) (upd H1 q o) := by
    rintro σ H Q ⟨sa, ca, env, s, F, d, fr, s', hs, he, hm, q⟩
    simp only [run] at hm
    split at hm <;> first | (cases hm; done) | skip
    rename_i j fj s1 h1
    split at hm <;> first | (cases hm; done) | skip
    rename_i hz
    cases hm
    refine ⟨sa, ca, env, s, F, .int j, fj, _, hs, he, h1, fun v H1 as r1 => ?_⟩
    cases r1.rp
    refine ⟨j, rfl, rg_ok (by simpa using hz), fun q0 o hq ho => ?_⟩
    obtain ⟨bs, r2⟩ := rl_res (env := env) (F := F) r1.g r1.src hq ho
    rw [Int.sub_zero] at r2
    exact q _ _ bs r2
  cases t with
  | true =>
    exact (pe_tupRg x0.calm (gl_ok x0 hgl) (x0.gl _ (by simp [bnames, seqN])) pr rfl).pvImp fun σ H Q h => by
      obtain ⟨sa, ca, env, s, F, d, fr, s', c1, c2, c3, c4⟩ := fin σ H Q h
      exact ⟨sa, ca, env, s, F, d, fr, s', c1, c2, c3, fun v H1 as r1 => let ⟨n, e, ok, q⟩ := c4 v H1 as r1; ⟨n, e, ok, fun q0 hq => q q0 _ hq (.inl ⟨rfl, rfl⟩)⟩⟩
  | false =>
    exact (pe_listRg x0.calm (gl_ok x0 hgl) (x0.gl _ (by simp [bnames, seqN])) pr rfl).pvImp fun σ H Q h => by
      obtain ⟨sa, ca, env, s, F, d, fr, s', c1, c2, c3, c4⟩ := fin σ H Q h
      exact ⟨sa, ca, env, s, F, d, fr, s', c1, c2, c3, fun v H1 as r1 => let ⟨n, e, ok, q⟩ := c4 v H1 as r1; ⟨n, e, ok, fun q0 hq => q q0 _ hq (.inr ⟨rfl, rfl⟩)⟩⟩
theorem g_rl2 {t : Bool} {a b : CE} {x y : Expr} {g g2 : Str} {p p2 p3 pos : Pos} (x0 : XOk T N cf k X sc) (hg : g = seqN t) (hgl : isGl sc g = true) (hg2 : g2 = "range") (hgl2 : isGl sc g2 = true) (ha : GE sx X x (run cf a)) (hb : GE sx X y (run cf b)) (s1 : starE x = false) (s2 : starE y = false) :
    GE sx X (.Call (.Name g p) [.Call (.Name g2 p2) [x, y] [] p3] [] pos) (run cf (.rl2 t a b)) := by
  subst hg hg2
  refine ge_def ?_ (fun _ => rfl) (fun _ _ _ z => nomatch z)
  have pr := prg_2 (p := p2) (pos := p3) (gl_ok x0 hgl2) (x0.gl _ (by simp [bnames])) ha.pe hb.pe (starEach_cons s1) (starEach_cons s2) (noStar (by simp [s2]))
  have fin : ∀ σ H Q, tE sx (run cf (.rl2 t a b)) σ H Q → tE sx (run cf a) σ H fun x H1 => tE sx (run cf b) σ H1 fun y H2 => ∃ i j, x = .int i ∧ y = .int j ∧ RgOk i j ∧ ∀ q o, H2 q = none → ((t = true ∧ o = .tup (rgV i j)) ∨ (t = false ∧ o = .lst (rgV i j))) → Q (.ref q) (upd H2 q o) := by
    rintro σ H Q ⟨sa, ca, env, s, F, d, fr, s', hs, he, hm, q⟩
    simp only [run] at hm
    split at hm <;> first | (cases hm; done) | skip
    rename_i i fi s1 h1
    split at hm <;> first | (cases hm; done) | skip
    rename_i j fj s2 h2
    split at hm <;> first | (cases hm; done) | skip
    rename_i hz
    cases hm
    refine ⟨sa, ca, env, s, F, .int i, fi, _, hs, he, h1, fun v H1 as r1 => ?_⟩
    refine ⟨sa, ca, env, _, F, .int j, fj, _, r1.src, he.grow hs r1.g, h2, fun w H2 bs r2 => ?_⟩
    cases r1.rp
    cases r2.rp
    refine ⟨i, j, rfl, rfl, rg_ok hz, fun q0 o hq ho => ?_⟩
    obtain ⟨cs, r3⟩ := rl_res (env := env) (F := F) (r1.g.trans r2.g) r2.src hq ho
    exact q _ _ cs r3
  cases t with
  | true =>
    exact (pe_tupRg x0.calm (gl_ok x0 hgl) (x0.gl _ (by simp [bnames, seqN])) pr rfl).pvImp fun σ H Q h => by
      obtain ⟨sa, ca, env, s, F, d, fr, s', c1, c2, c3, c4⟩ := fin σ H Q h
      refine ⟨sa, ca, env, s, F, d, fr, s', c1, c2, c3, fun v H1 as r1 => ?_⟩
      obtain ⟨sa, ca, env, s, F, d, fr, s', c1, c2, c3, c5⟩ := c4 v H1 as r1
      exact ⟨sa, ca, env, s, F, d, fr, s', c1, c2, c3, fun w H2 bs r2 => let ⟨i, j, e, e', ok, q⟩ := c5 w H2 bs r2; ⟨i, j, e, e', ok, fun q0 hq => q q0 _ hq (.inl ⟨rfl, rfl⟩)⟩⟩
  | false =>
    exact (pe_listRg x0.calm (gl_ok x0 hgl) (x0.gl _ (by simp [bnames, seqN])) pr rfl).pvImp fun σ H Q h => by
      obtain ⟨sa, ca, env, s, F, d, fr, s', c1, c2, c3, c4⟩ := fin σ H Q h
      refine ⟨sa, ca, env, s, F, d, fr, s', c1, c2, c3, fun v H1 as r1 => ?_⟩
      obtain ⟨sa, ca, env, s, F, d, fr, s', c1, c2, c3, c5⟩ := c4 v H1 as r1
      exact ⟨sa, ca, env, s, F, d, fr, s', c1, c2, c3, fun w H2 bs r2 => let ⟨i, j, e, e', ok, q⟩ := c5 w H2 bs r2; ⟨i, j, e, e', ok, fun q0 hq => q q0 _ hq (.inr ⟨rfl, rfl⟩)⟩⟩
end
end PV

/-! PV, part L: every checked expression is read as it runs. -/
namespace PV
open PySem PySem.Spec PyProof.Rows L2
section
variable (T : List FI) (N : List Str) (sx : Option Nat) (cf : CallF) (k : Nat)
def M1 (ce : CE) (sc : Scope) (e : Expr) : Prop := ∀ X, XOk T N cf k X sc → chk T N sx ce sc e = true → GE sx X e (run cf ce)
def M2 (c : CO) (sc : Scope) (es : List Expr) : Prop := ∀ X, XOk T N cf k X sc → chkC T N sx c sc es = true → PTs X es (tCd sx (runC cf c))
def M3 (ci : CI) (sc : Scope) (t e : Expr) : Prop := ∀ X, XOk T N cf k X sc → chkI T N sx ci sc t e = true → PI X t e (tI sx (runI cf ci)) ∧ ∀ x, foldedSetIterable e X.env x = pure x
def M4 (c : CO) (sc : Scope) (e : Option Expr) : Prop := ∀ X, XOk T N cf k X sc → chkO T N sx c sc e = true → PO X e (fun σ H Q => tEO sx (runO cf c) σ H Q)
def M5 (es : CEs) (sc : Scope) (xs : List Expr) : Prop := ∀ X, XOk T N cf k X sc → chks T N sx es sc xs = true → PA X xs (tEs sx (runs cf es))
/-- the table answers only where the arguments are as many as the parameters -/
def LenOk : Prop := ∀ (i : Nat) (fi : FI) (ds : List D) (s : Src), T[i]? = some fi → cf i ds s ≠ none → (if fi.hs then 1 else 0) + ds.length = fi.ps.length
variable {T N sx cf k}
theorem chk_star {a : CE} {sc : Scope} {e : Expr} (h : chk T N sx a sc e = true) : starE e = false := by
  cases e <;> first | rfl | skip
  cases a <;> simp [chk] at h
theorem andE {a b : Bool} (h : (a && b) = true) : a = true ∧ b = true := (Bool.and_eq_true _ _).mp h
theorem notE {a : Bool} (h : (!a) = true) : a = false := by cases a <;> simp_all
theorem all_ok (lo : LenOk T cf) : (∀ ce sc e, M1 T N sx cf k ce sc e) ∧ (∀ c sc es, M2 T N sx cf k c sc es) ∧ (∀ ci sc t e, M3 T N sx cf k ci sc t e) ∧ (∀ c sc e, M4 T N sx cf k c sc e) ∧ (∀ es sc xs, M5 T N sx cf k es sc xs) := by
  apply chk.mutual_induct T
  case case1 =>
    intro i sc x pos X x0 h
    simp only [chk] at h
    obtain ⟨h, h3⟩ := andE h
    obtain ⟨h1, h2⟩ := andE h
    exact g_var x0 h1 h2 h3
  case case2 =>
    intro sc kk pos X x0 h
    exact ge_def (pe_const pe_non (fun _ _ => by simp only [run]) fun _ _ => .non) (fun _ => rfl) (fun _ _ _ z => nomatch z)
  case case3 =>
    intro sc kk pos X x0 h
    exact ge_def (pe_const pe_bl (fun _ _ => by simp only [run]) fun _ _ => .bl _) (fun _ => rfl) (fun _ _ _ z => nomatch z)
  case case4 =>
    intro sc kk pos X x0 h
    exact ge_def (pe_const pe_bl (fun _ _ => by simp only [run]) fun _ _ => .bl _) (fun _ => rfl) (fun _ _ _ z => nomatch z)
  case case5 =>
    intro i sc j kk pos X x0 h
    simp only [chk, beq_iff_eq] at h
    subst h
    exact ge_def (pe_const pe_int (fun _ _ => by simp only [run]) fun _ _ => .int _) (fun _ => rfl) (fun _ _ _ z => nomatch z)
  case case6 =>
    intro i sc j kk pos X x0 h
    simp only [chk, beq_iff_eq] at h
    subst h
    exact ge_def (pe_const pe_str (fun _ _ => by simp only [run]) fun _ _ => .str _) (fun _ => rfl) (fun _ _ _ z => nomatch z)
  case case7 =>
    intro o a b sc l p r pos ha hb X x0 h
    simp only [chk] at h
    obtain ⟨h, h3⟩ := andE h
    obtain ⟨h1, h2⟩ := andE h
    exact g_op (of_decide_eq_true h1) (ha X x0 h2) (hb X x0 h3)
  case case8 =>
    intro a sc x pos ha X x0 h
    simp only [chk] at h
    exact g_neg (ha X x0 h)
  case case9 =>
    intro o a b sc l p r pos ha hb X x0 h
    simp only [chk] at h
    obtain ⟨h, h4⟩ := andE h
    obtain ⟨h, h3⟩ := andE h
    obtain ⟨h1, h2⟩ := andE h
    exact g_cmp x0 (of_decide_eq_true h1) (notE h2) (ha X x0 h3) (hb X x0 h4)
  case case10 =>
    intro o o2 a b c sc l p p2 r z pos ha hb hc X x0 h
    simp only [chk] at h
    obtain ⟨h, h6⟩ := andE h
    obtain ⟨h, h5⟩ := andE h
    obtain ⟨h, h4⟩ := andE h
    obtain ⟨h, h3⟩ := andE h
    obtain ⟨h1, h2⟩ := andE h
    exact g_chain x0 (of_decide_eq_true h1) (of_decide_eq_true h2) (notE h3) (ha X x0 h4) (hb X x0 h5) (hc X x0 h6)
  case case11 =>
    intro a sc l kk p1 p2 ha X x0 h
    simp only [chk] at h
    exact g_isN (ha X x0 h)
  case case12 =>
    intro a sc l kk p1 p2 ha X x0 h
    simp only [chk] at h
    exact g_notN (ha X x0 h)
  case case13 =>
    intro a sc l kk p1 p2 ha X x0 h
    simp only [chk] at h
    exact g_isT (ha X x0 h)
  case case14 =>
    intro a sc l kk p1 p2 ha X x0 h
    simp only [chk] at h
    exact g_notT (ha X x0 h)
  case case15 =>
    intro a b sc x y pos ha hb X x0 h
    simp only [chk] at h
    obtain ⟨h1, h2⟩ := andE h
    exact g_and2 (ha X x0 h1) (hb X x0 h2)
  case case16 =>
    intro a b sc x y z r pos ha hb X x0 h
    simp only [chk] at h
    obtain ⟨h1, h2⟩ := andE h
    exact g_andN (ha X x0 h1) (hb X x0 h2)
  case case17 =>
    intro a b sc x y pos ha hb X x0 h
    simp only [chk] at h
    obtain ⟨h1, h2⟩ := andE h
    exact g_or2 (ha X x0 h1) (hb X x0 h2)
  case case18 =>
    intro a b sc x y z r pos ha hb X x0 h
    simp only [chk] at h
    obtain ⟨h1, h2⟩ := andE h
    exact g_orN (ha X x0 h1) (hb X x0 h2)
  case case19 =>
    intro a sc x pos ha X x0 h
    simp only [chk] at h
    exact g_not (ha X x0 h)
  case case20 =>
    intro c a b sc t x y pos hc ha hb X x0 h
    simp only [chk] at h
    obtain ⟨h, h3⟩ := andE h
    obtain ⟨h1, h2⟩ := andE h
    exact g_ite (hc X x0 h1) (ha X x0 h2) (hb X x0 h3)
  case case21 =>
    intro es sc xs kk pos he X x0 h
    simp only [chk] at h
    exact g_tup (he X x0 h)
  case case22 =>
    intro es sc xs pos he X x0 h
    simp only [chk] at h
    exact g_lst (he X x0 h)
  case case23 =>
    intro a i sc x n p pos ha hi X x0 h
    simp only [chk] at h
    obtain ⟨h1, h2⟩ := andE h
    exact g_ix (fun _ _ => rfl) (ha X x0 h1) (hi X x0 h2)
  case case24 =>
    intro a i sc x n p pos pos2 ha hi X x0 h
    simp only [chk] at h
    obtain ⟨h1, h2⟩ := andE h
    exact g_ix (fun _ _ => rfl) (ha X x0 h1) (hi X x0 h2)
  case case25 =>
    intro a i sc x l o r p pos ha hi X x0 h
    simp only [chk] at h
    obtain ⟨h1, h2⟩ := andE h
    exact g_ix (fun _ _ => rfl) (ha X x0 h1) (hi X x0 h2)
  case case26 =>
    intro a i sc x l o r p ha hi X x0 h
    simp only [chk] at h
    obtain ⟨h1, h2⟩ := andE h
    exact g_ix (fun _ _ => rfl) (ha X x0 h1) (hi X x0 h2)
  case case27 =>
    intro a i sc x l o r p pos ha hi X x0 h
    simp only [chk] at h
    obtain ⟨h1, h2⟩ := andE h
    exact g_ix (fun _ _ => rfl) (ha X x0 h1) (hi X x0 h2)
  case case28 =>
    intro a i sc x l r p pos ha hi X x0 h
    simp only [chk] at h
    obtain ⟨h1, h2⟩ := andE h
    exact g_ix (fun _ _ => rfl) (ha X x0 h1) (hi X x0 h2)
  case case29 =>
    intro a lo hi sc x l hh p pos ha hl hu X x0 h
    simp only [chk] at h
    obtain ⟨h, h3⟩ := andE h
    obtain ⟨h1, h2⟩ := andE h
    exact g_sl (ha X x0 h1) (hl X x0 h2) (hu X x0 h3)
  case case30 =>
    intro a sc x kk p1 p2 p3 p4 ha X x0 h
    simp only [chk] at h
    exact g_rev (ha X x0 h)
  case case31 =>
    intro b e es sc g p x xs pos he hes X x0 h
    simp only [chk] at h
    obtain ⟨h, h6⟩ := andE h
    obtain ⟨h, h5⟩ := andE h
    obtain ⟨h, h4⟩ := andE h
    obtain ⟨h, h3⟩ := andE h
    obtain ⟨h1, h2⟩ := andE h
    exact g_bi x0 (beq_iff_eq.mp h1) h2 (he X x0 h3) (hes X x0 h4) (notE h5) (notE h6)
  case case32 =>
    intro t a sc g p x ty p2 p3 ha X x0 h
    simp only [chk] at h
    obtain ⟨h, h6⟩ := andE h
    obtain ⟨h, h5⟩ := andE h
    obtain ⟨h, h4⟩ := andE h
    obtain ⟨h, h3⟩ := andE h
    obtain ⟨h1, h2⟩ := andE h
    exact g_isi x0 (beq_iff_eq.mp h1) h2 (beq_iff_eq.mp h3) h4 (ha X x0 h5) (notE h6)
  case case33 =>
    intro f es sc g p x xs pos fi hf hes hes2 X x0 h
    simp only [chk, hf] at h
    obtain ⟨h, h6⟩ := andE h
    obtain ⟨h, h5⟩ := andE h
    obtain ⟨h, h4⟩ := andE h
    obtain ⟨h, h3⟩ := andE h
    obtain ⟨h1, h2⟩ := andE h
    cases hh : fi.hs with
    | false =>
      rw [hh] at h6
      refine g_call x0 hf (beq_iff_eq.mp h1) hh h2 h3 (hes2 X x0 h6) (notE h4) (notE h5) fun env s ds fr s' _ hne => ?_
      have := lo f fi ds s' hf hne
      rw [hh] at this
      simpa using this
    | true =>
      rw [hh] at h6
      obtain ⟨h7, h8⟩ := andE h6
      unfold srcArg at h7
      split at h7
      · rename_i y py
        split at h7
        · rename_i i
          obtain ⟨h7, hc⟩ := andE h7
          obtain ⟨ha, hb⟩ := andE h7
          refine g_callS x0 hf (beq_iff_eq.mp h1) hh h2 h3 rfl ha hb hc (hes X x0 h8) (notE h5) fun env s ds fr s' _ hne => ?_
          have := lo f fi ds s' hf hne
          rw [hh] at this
          simp only [if_true] at this
          omega
        · cases h7
      · cases h7
  case case34 =>
    intro f es sc g p x xs pos hf X x0 h
    simp only [chk, hf] at h
    cases h
  case case35 =>
    intro own tg it c e sc elt t i ifs scope pos hi hc he X x0 h
    simp only [chk] at h
    obtain ⟨h, h7⟩ := andE h
    obtain ⟨h, h6⟩ := andE h
    obtain ⟨h, h5⟩ := andE h
    obtain ⟨h, h4⟩ := andE h
    obtain ⟨h, h3⟩ := andE h
    obtain ⟨h1, h2⟩ := andE h
    have kind : scope.kind = .function := (blkOk_by h1).kind
    obtain ⟨pi, ps⟩ := hi X x0 h5
    exact (g_lc x0 h1 h2 h3 h4 pi (fun s H C cl fp => hc _ (x0.blk kind s H C cl fp) h6) (fun s H C cl fp => (he _ (x0.blk kind s H C cl fp) h7).pe) ps).1
  case case36 =>
    intro f sc n p key kk p2 pos X x0 h
    simp only [chk] at h
    obtain ⟨h1, h2⟩ := andE h
    exact g_sInt x0 (beq_iff_eq.mp h1) h2
  case case37 =>
    intro sc g p0 n p key kk p2 p3 pos X x0 h
    simp only [chk] at h
    obtain ⟨h, h4⟩ := andE h
    obtain ⟨h, h3⟩ := andE h
    obtain ⟨h1, h2⟩ := andE h
    exact g_sCnt x0 (beq_iff_eq.mp h1) h2 (beq_iff_eq.mp h3) h4
  case case38 =>
    intro t a sc g p g2 p2 x p3 pos ha X x0 h
    simp only [chk] at h
    obtain ⟨h, h6⟩ := andE h
    obtain ⟨h, h5⟩ := andE h
    obtain ⟨h, h4⟩ := andE h
    obtain ⟨h, h3⟩ := andE h
    obtain ⟨h1, h2⟩ := andE h
    exact g_rl1 x0 (beq_iff_eq.mp h1) h2 (beq_iff_eq.mp h3) h4 (ha X x0 h5) (notE h6)
  case case39 =>
    intro t a b sc g p g2 p2 x y p3 pos ha hb X x0 h
    simp only [chk] at h
    obtain ⟨h, h8⟩ := andE h
    obtain ⟨h, h7⟩ := andE h
    obtain ⟨h, h6⟩ := andE h
    obtain ⟨h, h5⟩ := andE h
    obtain ⟨h, h4⟩ := andE h
    obtain ⟨h, h3⟩ := andE h
    obtain ⟨h1, h2⟩ := andE h
    exact g_rl2 x0 (beq_iff_eq.mp h1) h2 (beq_iff_eq.mp h3) h4 (ha X x0 h5) (hb X x0 h6) (notE h7) (notE h8)
  case case40 =>
    intro i b sc n pn m ap x cp hb X x0 h
    simp only [chk] at h
    obtain ⟨h, h7⟩ := andE h
    obtain ⟨h, h6⟩ := andE h
    obtain ⟨h, h5⟩ := andE h
    obtain ⟨h, h4⟩ := andE h
    obtain ⟨h, h3⟩ := andE h
    obtain ⟨h1, h2⟩ := andE h
    exact g_idx x0 h1 h2 h3 (beq_iff_eq.mp h4) h5 (notE h6) (hb X x0 h7)
  case case42 => intro sc X x0 h; exact c_no
  case case43 => intro a sc e ha X x0 h; simp only [chkC] at h; exact c_so (ha X x0 h).pt
  case case45 => intro sc X x0 h; exact po_no
  case case46 => intro a sc e ha X x0 h; simp only [chkO] at h; exact po_so (ha X x0 h).pe
  case case48 => intro sc X x0 h; exact s_nil
  case case49 =>
    intro a r sc e es ha hr X x0 h
    simp only [chks] at h
    obtain ⟨h1, h2⟩ := andE h
    exact s_cons (chk_star h1) (ha X x0 h1).pe (hr X x0 h2)
  case case50 =>
    intro a r sc e p es ha hr X x0 h
    simp only [chks] at h
    obtain ⟨h1, h2⟩ := andE h
    exact s_star (ha X x0 h1).pe (hr X x0 h2)
  case case41 =>
    intros
    intro X x0 h
    rw [chk.eq_40] at h
    · cases h
    all_goals assumption
  case case44 =>
    intros
    intro X x0 h
    rw [chkC.eq_3] at h
    · cases h
    all_goals assumption
  case case47 =>
    intros
    intro X x0 h
    rw [chkO.eq_3] at h
    · cases h
    all_goals assumption
  case case51 =>
    intros
    intro X x0 h
    rw [chks.eq_4] at h
    · cases h
    all_goals assumption
  case case52 => intro a sc x y p ha X x0 h; simp only [chkI] at h; exact ⟨i_val (ha X x0 h).pe, fun _ => rfl⟩
  case case53 => intro a sc x f xs ks p ha X x0 h; simp only [chkI] at h; exact ⟨i_val (ha X x0 h).pe, fun _ => rfl⟩
  case case54 => intro a sc x l r p ha X x0 h; simp only [chkI] at h; exact ⟨i_val (ha X x0 h).pe, fun _ => rfl⟩
  case case55 => intro a sc x l r p ha X x0 h; simp only [chkI] at h; exact ⟨i_val (ha X x0 h).pe, fun _ => rfl⟩
  case case56 => intro a sc x l p ha X x0 h; simp only [chkI] at h; exact ⟨i_val (ha X x0 h).pe, fun _ => rfl⟩
  case case57 => intro a sc x l o r p ha X x0 h; simp only [chkI] at h; exact ⟨i_val (ha X x0 h).pe, fun _ => rfl⟩
  case case58 => intro a sc x l o r p ha X x0 h; simp only [chkI] at h; exact ⟨i_val (ha X x0 h).pe, fun _ => rfl⟩
  case case59 =>
    intro a sc x g p y p2 ha X x0 h
    simp only [chkI] at h
    obtain ⟨h, h4⟩ := andE h
    obtain ⟨h, h3⟩ := andE h
    obtain ⟨h1, h2⟩ := andE h
    exact ⟨i_rg1 x0 (beq_iff_eq.mp h1) h2 (notE h4) (ha X x0 h3).pe, fun _ => rfl⟩
  case case60 =>
    intro a b sc x g p y z p2 ha hb X x0 h
    simp only [chkI] at h
    obtain ⟨h, h6⟩ := andE h
    obtain ⟨h, h5⟩ := andE h
    obtain ⟨h, h4⟩ := andE h
    obtain ⟨h, h3⟩ := andE h
    obtain ⟨h1, h2⟩ := andE h
    exact ⟨i_rg2 x0 (beq_iff_eq.mp h1) h2 (notE h5) (notE h6) (ha X x0 h3).pe (hb X x0 h4).pe, fun _ => rfl⟩
  case case61 =>
    intro a sc elts kk p0 g p y p2 ha X x0 h
    simp only [chkI] at h
    obtain ⟨h, h4⟩ := andE h
    obtain ⟨h, h3⟩ := andE h
    obtain ⟨h1, h2⟩ := andE h
    exact ⟨i_enum x0 (beq_iff_eq.mp h1) h2 (notE h4) (ha X x0 h3).pe, fun _ => rfl⟩
  case case62 =>
    intro a b sc elts kk p0 g p y z p2 ha hb X x0 h
    simp only [chkI] at h
    obtain ⟨h, h6⟩ := andE h
    obtain ⟨h, h5⟩ := andE h
    obtain ⟨h, h4⟩ := andE h
    obtain ⟨h, h3⟩ := andE h
    obtain ⟨h1, h2⟩ := andE h
    exact ⟨i_zip x0 (beq_iff_eq.mp h1) h2 (notE h5) (notE h6) (ha X x0 h3).pe (hb X x0 h4).pe, fun _ => rfl⟩
  case case63 =>
    intro a b sc elts kk p0 g p y z kw ck cp kp p2 ha hb X x0 h
    simp only [chkI] at h
    obtain ⟨h, h7⟩ := andE h
    obtain ⟨h, h6⟩ := andE h
    obtain ⟨h, h4⟩ := andE h
    obtain ⟨h, h3⟩ := andE h
    obtain ⟨h, h5⟩ := andE h
    obtain ⟨h1, h2⟩ := andE h
    have := beq_iff_eq.mp h5
    subst this
    exact ⟨i_zips x0 (beq_iff_eq.mp h1) h2 (notE h6) (notE h7) (ha X x0 h3).pe (hb X x0 h4).pe, fun _ => rfl⟩
  case case64 =>
    intros
    intro X x0 h
    rw [chkI.eq_13] at h
    · cases h
    all_goals assumption
end
end PV

/-! PV, part M: the state of a body between statements. -/
namespace PV
open PySem PySem.Spec PyProof.Rows L2

/-- what the body (or a loop) started from: the heap, the lists that it may change, the lists that its values may share -/
structure Base where
  H0 : Hp
  O : Addr → Prop
  P : Addr → Prop
structure Kept (sa ca : Addr) (B : Base) (H : Hp) : Prop where
  kept : ∀ a o, ¬ B.O a → a ≠ sa → a ≠ ca → B.H0 a = some o → H a = some o
  dom : ∀ a, H a = none → B.H0 a = none
  tup : ∀ a xs, B.H0 a = some (.tup xs) → H a = some (.tup xs)
abbrev EnvS := List (Option (D × Bool))
structure Rel (sx : Option Nat) (sa ca : Addr) (B : Base) (st : S) (σ : L2.St) (F : Nat → List Addr) (H : Hp) : Prop where
  kp : Kept sa ca B H
  src : SrcAt sa ca st.src H
  len : st.env.length = σ.length
  at_ : ∀ i d o, st.env[i]? = some (some (d, o)) → ∃ v, σ[i]? = some (some v) ∧ Rp ca H v d (F i)
  sx : ∀ i, sx = some i → σ[i]? = some (some (.ref sa))
  own : ∀ i d, st.env[i]? = some (some (d, true)) → (F i).Nodup ∧ (∀ a ∈ F i, B.O a ∨ B.H0 a = none) ∧ ∀ j e o, j ≠ i → st.env[j]? = some (some (e, o)) → ∀ a ∈ F i, a ∉ F j
  prov : ∀ i d o, st.env[i]? = some (some (d, o)) → ∀ a ∈ F i, B.H0 a = none ∨ B.P a

theorem frz_at {me : List Nat} : ∀ (l : EnvS) (i : Nat), (l.mapIdx fun j o => if me.contains (j + i) then o.map fun p => (p.1, p.2 && noL p.1) else o) = frzC me i l
  | [], _ => rfl
  | o :: r, i => by
    have h := frz_at (me := me) r (i + 1)
    rw [List.mapIdx_cons, frzC, ← h, Nat.zero_add]
    congr 2
    funext j o
    rw [show j + 1 + i = j + (i + 1) by omega]
theorem frz_map {me : List Nat} {l : EnvS} : frz me l = l.mapIdx fun j o => if me.contains j then o.map fun p => (p.1, p.2 && noL p.1) else o := (frz_at l 0).symm
theorem mask_to {me : List Nat} : ∀ (l : Env) (i : Nat), (l.mapIdx fun j o => if me.contains (j + i) then o else none) = maskC me i l
  | [], _ => rfl
  | o :: r, i => by
    have h := mask_to (me := me) r (i + 1)
    rw [List.mapIdx_cons, maskC, ← h, Nat.zero_add]
    congr 2
    funext j o
    rw [show j + 1 + i = j + (i + 1) by omega]
theorem mask_map {me : List Nat} {l : Env} : mask me l = l.mapIdx fun j o => if me.contains j then o else none := (mask_to l 0).symm
theorem vals_get {l : EnvS} {i : Nat} {d : D} : (vals l)[i]? = some (some d) ↔ ∃ o, l[i]? = some (some (d, o)) := by
  unfold vals
  rw [List.getElem?_map]
  cases l[i]? with
  | none => simp
  | some x =>
    cases x with
    | none => simp
    | some p =>
      obtain ⟨a, b⟩ := p
      simp
theorem mask_get {me : List Nat} {env : Env} {i : Nat} {d : D} : (mask me env)[i]? = some (some d) ↔ i ∈ me ∧ env[i]? = some (some d) := by
  rw [mask_map, List.getElem?_mapIdx]
  cases env[i]? with
  | none => simp
  | some x =>
    by_cases h : i ∈ me
    · simp [h]
    · simp [h]
theorem frz_get {me : List Nat} {l : EnvS} {i : Nat} {d : D} {o : Bool} (h : (frz me l)[i]? = some (some (d, o))) : (i ∈ me ∧ ∃ o', o = (o' && noL d) ∧ l[i]? = some (some (d, o'))) ∨ (i ∉ me ∧ l[i]? = some (some (d, o))) := by
  rw [frz_map, List.getElem?_mapIdx] at h
  cases q : l[i]? with
  | none => rw [q] at h; simp at h
  | some x =>
    rw [q] at h
    by_cases hm : i ∈ me
    · cases x with
      | none => simp [hm] at h
      | some p =>
        obtain ⟨a, b⟩ := p
        simp [hm] at h
        obtain ⟨rfl, rfl⟩ := h
        exact .inl ⟨hm, b, rfl, rfl⟩
    · simp [hm] at h
      exact .inr ⟨hm, by rw [h]⟩
theorem vals_len {l : EnvS} : (vals l).length = l.length := by simp [vals]
theorem mask_len {me : List Nat} {l : Env} : (mask me l).length = l.length := by rw [mask_map]; simp
theorem frz_len {me : List Nat} {l : EnvS} : (frz me l).length = l.length := by rw [frz_map]; simp
theorem frz_any {me : List Nat} {l : EnvS} {i : Nat} {d : D} {o : Bool} (h : (frz me l)[i]? = some (some (d, o))) : ∃ o', l[i]? = some (some (d, o')) ∧ (o = true → (i ∉ me ∨ noL d = true) ∧ o' = true) := by
  rcases frz_get h with ⟨h1, o', rfl, e⟩ | ⟨h1, e⟩
  · exact ⟨o', e, fun z => by
      obtain ⟨z1, z2⟩ := (Bool.and_eq_true _ _).mp z
      exact ⟨.inr z2, z1⟩⟩
  · exact ⟨o, e, fun z => ⟨.inl h1, z⟩⟩

section
variable {sx : Option Nat} {sa ca : Addr} {B : Base} {st : S} {σ : L2.St} {F : Nat → List Addr} {H H' : Hp} {s' : Src}
theorem Kept.grow (k : Kept sa ca B H) (g : Grow sa ca H H') : Kept sa ca B H' := ⟨fun a o h1 h2 h3 e => g.keep a o h2 h3 (k.kept a o h1 h2 h3 e), fun a e => k.dom a (g.dom a e), fun a xs e => g.tup a xs (k.tup a xs e)⟩
theorem Rel.env (r : Rel sx sa ca B st σ F H) : EnvAt sx sa ca H (vals st.env) σ F := ⟨by rw [vals_len, r.len], fun i d e => by
  obtain ⟨o, e⟩ := vals_get.mp e
  exact r.at_ i d o e, r.sx⟩
theorem Rel.envM (r : Rel sx sa ca B st σ F H) (me : List Nat) : EnvAt sx sa ca H (mask me (vals st.env)) σ F := ⟨by rw [mask_len, vals_len, r.len], fun i d e => by
  obtain ⟨o, e⟩ := vals_get.mp (mask_get.mp e).2
  exact r.at_ i d o e, r.sx⟩
theorem Rel.grow (r : Rel sx sa ca B st σ F H) (g : Grow sa ca H H') (x : SrcAt sa ca s' H') : Rel sx sa ca B ⟨st.env, s'⟩ σ F H' :=
  ⟨r.kp.grow g, x, r.len, fun i d o e => let ⟨v, e1, rp⟩ := r.at_ i d o e; ⟨v, e1, rp.grow r.src g⟩, r.sx, r.own, r.prov⟩
theorem Rel.frz (r : Rel sx sa ca B st σ F H) (me : List Nat) : Rel sx sa ca B ⟨PV.frz me st.env, st.src⟩ σ F H :=
  ⟨r.kp, r.src, by rw [frz_len]; exact r.len, fun i d o e => let ⟨o', e', _⟩ := frz_any e; r.at_ i d o' e', r.sx, fun i d e => by
    obtain ⟨o', e', h⟩ := frz_any e
    obtain ⟨_, rfl⟩ := h rfl
    obtain ⟨n, b, sep⟩ := r.own i d e'
    exact ⟨n, b, fun j e2 o2 hj q => let ⟨o3, q', _⟩ := frz_any q; sep j e2 o3 hj q'⟩, fun i d o e => let ⟨o', e', _⟩ := frz_any e; r.prov i d o' e'⟩
theorem Rel.noLF (r : Rel sx sa ca B st σ F H) {i : Nat} {d : D} {o : Bool} (e : st.env[i]? = some (some (d, o))) (h : noL d = true) : F i = [] := by
  obtain ⟨v, _, rp⟩ := r.at_ i d o e
  exact rp.noL_nil h
theorem Rel.trk (r : Rel sx sa ca B st σ F H) {i : Nat} {d : D} {o : Bool} (e : st.env[i]? = some (some (d, o))) : ∀ a ∈ F i, H a ≠ none := by
  obtain ⟨v, _, rp⟩ := r.at_ i d o e
  exact trk_ne rp

/-- a value that may be stored with the mark o -/
structure Sto (sa ca : Addr) (B : Base) (env : EnvS) (F : Nat → List Addr) (H : Hp) (v : V) (d : D) (o : Bool) (as : List Addr) : Prop where
  rp : Rp ca H v d as
  new : o = true → as.Nodup ∧ (∀ a ∈ as, B.O a ∨ B.H0 a = none) ∧ ∀ j e o', env[j]? = some (some (e, o')) → ∀ a ∈ as, a ∉ F j
  sep : ∀ j e, env[j]? = some (some (e, true)) → ∀ a ∈ F j, a ∉ as
  prov : ∀ a ∈ as, B.H0 a = none ∨ B.P a
def setF (F : Nat → List Addr) (i : Nat) (as : List Addr) : Nat → List Addr := fun j => if j = i then as else F j
theorem setF_same {F : Nat → List Addr} {i : Nat} {as : List Addr} : setF F i as i = as := by simp [setF]
theorem setF_ne {F : Nat → List Addr} {i j : Nat} {as : List Addr} (h : j ≠ i) : setF F i as j = F j := by simp [setF, h]
theorem set_some {α : Type} {l : List (Option α)} {i j : Nat} {x y : α} (h : (l.set i (some x))[j]? = some (some y)) : (j = i ∧ y = x ∧ i < l.length) ∨ (j ≠ i ∧ l[j]? = some (some y)) := by
  by_cases hj : j = i
  · subst hj
    by_cases hl : j < l.length
    · rw [List.getElem?_set_self hl] at h
      cases h
      exact .inl ⟨rfl, rfl, hl⟩
    · rw [List.getElem?_eq_none (by simpa using hl)] at h
      cases h
  · rw [List.getElem?_set_ne (Ne.symm hj)] at h
    exact .inr ⟨hj, h⟩
theorem Rel.put (r : Rel sx sa ca B st σ F H) {i : Nat} {v : V} {d : D} {o : Bool} {as : List Addr} (x : Sto sa ca B st.env F H v d o as) (hi : sx ≠ some i) :
    Rel sx sa ca B ⟨st.env.set i (some (d, o)), st.src⟩ (σ.set i (some v)) (setF F i as) H := by
  refine ⟨r.kp, r.src, by simp [r.len], fun j d' o' e => ?_, fun j e => ?_, fun j d' e => ?_, fun j d' o' e => ?_⟩
  · rcases set_some e with ⟨rfl, h, hl⟩ | ⟨hj, h⟩
    · cases h
      exact ⟨v, List.getElem?_set_self (by rw [← r.len]; exact hl), by rw [setF_same]; exact x.rp⟩
    · obtain ⟨u, e1, rp⟩ := r.at_ j d' o' h
      exact ⟨u, by rw [List.getElem?_set_ne (Ne.symm hj)]; exact e1, by rw [setF_ne hj]; exact rp⟩
  · rw [List.getElem?_set_ne (fun z => hi (by rw [e, z]))]
    exact r.sx j e
  · rcases set_some e with ⟨rfl, h, hl⟩ | ⟨hj, h⟩
    · cases h
      obtain ⟨n1, n2, n3⟩ := x.new rfl
      rw [setF_same]
      refine ⟨n1, n2, fun k e' o' hk q a ha => ?_⟩
      rcases set_some q with ⟨z, _, _⟩ | ⟨_, q⟩
      · exact absurd z hk
      · rw [setF_ne hk]; exact n3 k e' o' q a ha
    · obtain ⟨n1, n2, n3⟩ := r.own j d' h
      rw [setF_ne hj]
      refine ⟨n1, n2, fun k e' o' hk q a ha => ?_⟩
      rcases set_some q with ⟨rfl, z, _⟩ | ⟨hki, q⟩
      · cases z
        rw [setF_same]; exact x.sep j d' h a ha
      · rw [setF_ne hki]; exact n3 k e' o' hk q a ha
  · rcases set_some e with ⟨rfl, h, hl⟩ | ⟨hj, h⟩
    · rw [setF_same]; exact x.prov
    · rw [setF_ne hj]; exact r.prov j d' o' h

/-- an expression's value, its lists all new (or none) -/
theorem Rel.stoNew {d : D} {fr : Bool} {v : V} {as : List Addr} {env : Env} (r : Rel sx sa ca B st σ F H) (hr : Res sa ca H env F d fr s' v H' as) (he : ∀ a, Al env F a → ∃ i e o, st.env[i]? = some (some (e, o)) ∧ a ∈ F i) (h : (fr || noL d) = true) : Sto sa ca B st.env F H' v d true as := by
  have f := fr_or (H0 := H) hr.rp hr.fr h
  refine ⟨hr.rp, fun _ => ⟨f.1, fun a ha => .inr (r.kp.dom a (f.2 a ha)), fun j e o' q a ha hm => r.trk q a hm (f.2 a ha)⟩, fun j e q a ha hm => r.trk q a ha (f.2 a hm), fun a ha => .inl (r.kp.dom a (f.2 a ha))⟩
theorem al_vals {l : EnvS} {a : Addr} (h : Al (vals l) F a) : ∃ i e o, l[i]? = some (some (e, o)) ∧ a ∈ F i := by
  obtain ⟨i, d, e, ha⟩ := h
  obtain ⟨o, e⟩ := vals_get.mp e
  exact ⟨i, d, o, e, ha⟩
theorem al_mask {l : EnvS} {me : List Nat} {a : Addr} (h : Al (mask me (vals l)) F a) : ∃ i e o, i ∈ me ∧ l[i]? = some (some (e, o)) ∧ a ∈ F i := by
  obtain ⟨i, d, e, ha⟩ := h
  obtain ⟨h1, h2⟩ := mask_get.mp e
  obtain ⟨o, e⟩ := vals_get.mp h2
  exact ⟨i, d, o, h1, e, ha⟩
theorem Rel.provV (r : Rel sx sa ca B st σ F H) {a : Addr} (h : H a = none ∨ Al (vals st.env) F a) : B.H0 a = none ∨ B.P a := by
  rcases h with h | h
  · exact .inl (r.kp.dom a h)
  · obtain ⟨i, e, o, q, ha⟩ := al_vals h
    exact r.prov i e o q a ha
/-- .. that may share the lists of the slots at me, which are frozen -/
theorem Rel.stoFrz {d : D} {fr : Bool} {v : V} {as : List Addr} {me : List Nat} (r : Rel sx sa ca B st σ F H) (hr : Res sa ca H (mask me (vals st.env)) F d fr s' v H' as) : Sto sa ca B (PV.frz me st.env) F H' v d false as := by
  refine ⟨hr.rp, fun z => (nomatch z), fun j e q a ha hm => ?_, fun a ha => ?_⟩
  · obtain ⟨o', q', h⟩ := frz_any q
    obtain ⟨hj, rfl⟩ := h rfl
    rcases hr.al a hm with n | n
    · exact r.trk q' a ha n
    · obtain ⟨i, e2, o2, hi, q2, ha2⟩ := al_mask n
      rcases hj with hj | hj
      · exact (r.own j e q').2.2 i e2 o2 (fun z => hj (z ▸ hi)) q2 a ha ha2
      · rw [r.noLF q' hj] at ha; cases ha
  · rcases hr.al a ha with n | n
    · exact .inl (r.kp.dom a n)
    · obtain ⟨i, e2, o2, hi, q2, ha2⟩ := al_mask n
      exact r.prov i e2 o2 q2 a ha2
end
end PV

/-! PV, part N: stores, lists written, targets in a body. -/
namespace PV
open PySem PySem.Spec PyProof.Rows L2

def Post (sx : Option Nat) (sa ca : Addr) (B : Base) (Dn : Ends) : Fl → S → Prop
  | .nx, st => ∀ σ F H, Rel sx sa ca B st σ F H → Dn.nx σ H
  | .rt d, st => ∀ v H as, Kept sa ca B H → SrcAt sa ca st.src H → Rp ca H v d as → (∀ a ∈ as, B.H0 a = none ∨ B.P a) → Dn.rt v H
def tS (sx : Option Nat) (m : S → Option (Fl × S)) : TS := fun Dn σ H => ∃ sa ca B st F fl st', Rel sx sa ca B st σ F H ∧ m st = some (fl, st') ∧ Post sx sa ca B Dn fl st'
section
variable {T : List FI} {N : List Str} {sx : Option Nat} {cf : CallF} {k : Nat} {X : Cx} {sc : Scope} {W : Nat}
variable {sa ca : Addr} {B : Base} {st st1 : S} {σ σ' : L2.St} {F : Nat → List Addr} {H H' : Hp} {s' : Src}
theorem store_imp {e : CE} {me : List Nat} {d : D} {o : Bool} {Q : VK} (r : Rel sx sa ca B st σ F H) (hm : forStore cf e me st = some (d, o, st1))
    (q : ∀ v H' as, Rel sx sa ca B st1 σ F H' → Sto sa ca B st1.env F H' v d o as → Q v H') : tE sx (run cf e) σ H Q := by
  unfold forStore at hm
  split at hm
  · rename_i d1 fr s1 h1
    split at hm
    · rename_i hf
      simp only [Option.some.injEq, Prod.mk.injEq] at hm
      obtain ⟨rfl, rfl, rfl⟩ := hm
      exact ⟨sa, ca, _, _, F, d1, fr, s1, r.src, r.env, h1, fun v H' as res => q v H' as (r.grow res.g res.src) (r.stoNew res (fun a h => al_vals h) hf)⟩
    · split at hm
      · rename_i d2 fr2 s2 h2
        simp only [Option.some.injEq, Prod.mk.injEq] at hm
        obtain ⟨rfl, rfl, rfl⟩ := hm
        exact ⟨sa, ca, _, _, F, d2, fr2, s2, r.src, r.envM me, h2, fun v H' as res => q v H' as ((r.frz me).grow (s' := s2) res.g res.src) (r.stoFrz res)⟩
      · cases hm
  · cases hm
/-- a value that is just read -/
theorem read_imp {e : CE} {d : D} {fr : Bool} {Q : VK} (r : Rel sx sa ca B st σ F H) (hm : run cf e (vals st.env) st.src = some (d, fr, s')) (q : ∀ v H' as, Rel sx sa ca B ⟨st.env, s'⟩ σ F H' → Res sa ca H (vals st.env) F d fr s' v H' as → Q v H') : tE sx (run cf e) σ H Q :=
  ⟨sa, ca, _, _, F, d, fr, s', r.src, r.env, hm, fun v H' as res => q v H' as (r.grow res.g res.src) res⟩
theorem test_imp {e : CE} {b fr : Bool} {Q : Bool → Hp → Prop} (r : Rel sx sa ca B st σ F H) (hm : run cf e (vals st.env) st.src = some (.bool b, fr, s')) (q : ∀ H', Rel sx sa ca B ⟨st.env, s'⟩ σ F H' → Q b H') : tT sx (run cf e) σ H Q :=
  ⟨sa, ca, _, _, F, b, fr, s', r.src, r.env, hm, fun H' g x => q H' (r.grow g x)⟩

/-! ### a list of one's own is written -/
theorem Rel.write {i : Nat} {p : Addr} {ds ds' : List D} {xs xs' : List V} {as bs : List Addr} (r : Rel sx sa ca B st σ F H) (e : st.env[i]? = some (some (.list ds, true))) (hF : F i = p :: as) (hp : H p = some (.lst xs)) (hv : σ[i]? = some (some (.ref p)))
    (rn : RpAll ca H xs' ds' bs) (np : p ∉ bs) (nd : bs.Nodup) (nb : ∀ a ∈ bs, B.O a ∨ B.H0 a = none) (sep : ∀ j e2 o, j ≠ i → st.env[j]? = some (some (e2, o)) → ∀ a ∈ bs, a ∉ F j) (pv : ∀ a ∈ bs, B.H0 a = none ∨ B.P a) :
    Rel sx sa ca B ⟨st.env.set i (some (.list ds', true)), st.src⟩ σ (setF F i (p :: bs)) (upd H p (.lst xs')) := by
  obtain ⟨on, ob, os⟩ := r.own i _ e
  have pF : p ∈ F i := by rw [hF]; exact List.mem_cons_self
  have nsa : p ≠ sa := fun z => by rw [z, r.src.1] at hp; cases hp
  have nca : p ≠ ca := by
    obtain ⟨v, _, rp⟩ := r.at_ i _ _ e
    exact (rp.trk p pF).1
  have tup : ∀ a ys, H a = some (.tup ys) → upd H p (.lst xs') a = some (.tup ys) := fun a ys q => by
    rw [upd_ne (fun z => by rw [z, hp] at q; cases q)]; exact q
  refine ⟨⟨fun a o h1 h2 h3 q => ?_, fun a q => ?_, fun a ys q => tup a ys (r.kp.tup a ys q)⟩, ⟨by rw [upd_ne (Ne.symm nsa)]; exact r.src.1, by rw [upd_ne (Ne.symm nca)]; exact r.src.2⟩, by simp [r.len], fun j d o q => ?_, r.sx, fun j d q => ?_, fun j d o q => ?_⟩
  · rw [upd_ne (fun z => ?_)]
    · exact r.kp.kept a o h1 h2 h3 q
    · subst z
      rcases ob a pF with y | y
      · exact h1 y
      · rw [y] at q; cases q
  · by_cases z : a = p
    · subst z; rw [upd_same] at q; cases q
    · rw [upd_ne z] at q; exact r.kp.dom a q
  · rcases set_some q with ⟨rfl, z, _⟩ | ⟨hj, q⟩
    · cases z
      exact ⟨.ref p, hv, by rw [setF_same]; exact .lst upd_same nca (rn.mono tup fun a ha => upd_ne fun z => np (z ▸ ha))⟩
    · obtain ⟨v, e1, rp⟩ := r.at_ j d o q
      exact ⟨v, e1, by rw [setF_ne hj]; exact rp.mono tup fun a ha => upd_ne fun z => os j d o hj q p pF (z ▸ ha)⟩
  · rcases set_some q with ⟨rfl, z, _⟩ | ⟨hj, q⟩
    · rw [setF_same]
      refine ⟨List.nodup_cons.mpr ⟨np, nd⟩, fun a ha => ?_, fun k e2 o2 hk q2 a ha => ?_⟩
      · rcases List.mem_cons.mp ha with rfl | ha
        · exact ob a pF
        · exact nb a ha
      · rcases set_some q2 with ⟨z, _, _⟩ | ⟨_, q2⟩
        · exact absurd z hk
        · rw [setF_ne hk]
          rcases List.mem_cons.mp ha with rfl | ha
          · exact os k e2 o2 hk q2 a pF
          · exact sep k e2 o2 hk q2 a ha
    · have qj := q
      obtain ⟨n1, n2, n3⟩ := r.own j d q
      rw [setF_ne hj]
      refine ⟨n1, n2, fun k e2 o2 hk q2 a ha hm => ?_⟩
      rcases set_some q2 with ⟨zk, z, _⟩ | ⟨hki, q2⟩
      · rw [zk, setF_same] at hm
        rcases List.mem_cons.mp hm with rfl | hm
        · exact os j d true hj qj a pF ha
        · exact sep j d true hj qj a hm ha
      · rw [setF_ne hki] at hm
        exact n3 k e2 o2 hk q2 a ha hm
  · rcases set_some q with ⟨rfl, z, _⟩ | ⟨hj, q⟩
    · rw [setF_same]
      intro a ha
      rcases List.mem_cons.mp ha with rfl | ha
      · exact r.prov j _ _ e a pF
      · exact pv a ha
    · rw [setF_ne hj]
      exact r.prov j d o q
/-- the list in a slot of one's own -/
theorem Rel.ownList {i : Nat} {ds : List D} (r : Rel sx sa ca B st σ F H) (e : st.env[i]? = some (some (.list ds, true))) : ∃ p xs as, σ[i]? = some (some (.ref p)) ∧ H p = some (.lst xs) ∧ F i = p :: as ∧ RpAll ca H xs ds as ∧ p ∉ as ∧ as.Nodup ∧
    (∀ a ∈ as, B.O a ∨ B.H0 a = none) ∧ (∀ j e2 o, j ≠ i → st.env[j]? = some (some (e2, o)) → ∀ a ∈ as, a ∉ F j) ∧ ∀ a ∈ as, B.H0 a = none ∨ B.P a := by
  obtain ⟨v, ev, rp⟩ := r.at_ i _ _ e
  obtain ⟨on, ob, os⟩ := r.own i _ e
  have pv := r.prov i _ _ e
  generalize hf : F i = fi at rp on ob os pv
  cases rp with
  | @lst p xs _ as e1 n1 rv =>
    obtain ⟨h1, h2⟩ := List.nodup_cons.mp on
    exact ⟨p, xs, as, ev, e1, rfl, rv, h1, h2, fun a ha => ob a (List.mem_cons_of_mem _ ha), fun j e2 o hj q a ha => os j e2 o hj q a (List.mem_cons_of_mem _ ha), fun a ha => pv a (List.mem_cons_of_mem _ ha)⟩

/-! ### targets -/
mutual
theorem putT_shape : ∀ (ct : CT) (d : D) (env env' : EnvS), putT ct d env = some env' → shapeT ct d = true
  | .name _, _, _, _, _ => rfl
  | .tup ts, d, env, env', h => by
    cases d <;> simp only [putT] at h <;> first | (cases h; done) | skip
    simp only [shapeT]
    exact putTs_shape ts _ env env' h
theorem putTs_shape : ∀ (ct : CTs) (d : List D) (env env' : EnvS), putTs ct d env = some env' → shapeTs ct d = true
  | .nil, [], _, _, _ => rfl
  | .nil, _ :: _, _, _, h => by simp [putTs] at h
  | .cons _ _, [], _, _, h => by simp [putTs] at h
  | .cons t r, d :: ds, env, env', h => by
    simp only [putTs] at h
    obtain ⟨e1, h1, h2⟩ := Option.bind_eq_some_iff.mp h
    simp only [shapeTs, putT_shape t d env e1 h1, putTs_shape r ds e1 env' h2, Bool.and_self]
end
mutual
theorem putT_rel : ∀ (ct : CT) (v : V) (d : D) (as : List Addr) (σ σ' : L2.St) (env env' : EnvS) (F : Nat → List Addr), AsgV ca H ct v d as σ σ' → putT ct d env = some env' → Rel sx sa ca B ⟨env, s'⟩ σ F H →
    (∀ j e, env[j]? = some (some (e, true)) → ∀ a ∈ F j, a ∉ as) → (∀ a ∈ as, B.H0 a = none ∨ B.P a) → (∀ i ∈ slotsT ct, sx ≠ some i) →
    ∃ F', Rel sx sa ca B ⟨env', s'⟩ σ' F' H ∧ ∀ j e, env'[j]? = some (some (e, true)) → F' j = [] ∨ (F' j = F j ∧ env[j]? = some (some (e, true)))
  | .name i, v, d, as, σ, _, env, env', F, h, hm, r, sep, pv, hi => by
    cases h with
    | name rp =>
      simp only [putT, Option.some.injEq] at hm
      subst hm
      have x : Sto sa ca B env F H v d (noL d) as := ⟨rp, fun h => by
        rw [rp.noL_nil h]
        exact ⟨List.nodup_nil, by simp, by simp⟩, sep, pv⟩
      refine ⟨setF F i as, Rel.put (st := ⟨env, s'⟩) r x (hi i (by simp [slotsT])), fun j e q => ?_⟩
      rcases set_some q with ⟨rfl, z, _⟩ | ⟨hj, q⟩
      · simp only [Prod.mk.injEq] at z
        rw [setF_same]
        exact .inl (rp.noL_nil z.2.symm)
      · rw [setF_ne hj]; exact .inr ⟨rfl, q⟩
  | .tup ts, v, d, as, σ, σ', env, env', F, h, hm, r, sep, pv, hi => by
    cases h with
    | tup hs =>
      simp only [putT] at hm
      exact putTs_rel ts _ _ as σ σ' env env' F hs hm r sep pv (fun i h => hi i (by simpa [slotsT] using h))
theorem putTs_rel : ∀ (ct : CTs) (v : List V) (d : List D) (as : List Addr) (σ σ' : L2.St) (env env' : EnvS) (F : Nat → List Addr), AsgVs ca H ct v d as σ σ' → putTs ct d env = some env' → Rel sx sa ca B ⟨env, s'⟩ σ F H →
    (∀ j e, env[j]? = some (some (e, true)) → ∀ a ∈ F j, a ∉ as) → (∀ a ∈ as, B.H0 a = none ∨ B.P a) → (∀ i ∈ slotsTs ct, sx ≠ some i) →
    ∃ F', Rel sx sa ca B ⟨env', s'⟩ σ' F' H ∧ ∀ j e, env'[j]? = some (some (e, true)) → F' j = [] ∨ (F' j = F j ∧ env[j]? = some (some (e, true)))
  | .nil, _, _, _, σ, _, env, env', F, h, hm, r, sep, pv, hi => by
    cases h
    simp only [putTs, Option.some.injEq] at hm
    subst hm
    exact ⟨F, r, fun j e q => .inr ⟨rfl, q⟩⟩
  | .cons t rs, _, _, _, σ, σ', env, env', F, h, hm, r, sep, pv, hi => by
    cases h with
    | @cons _ _ v vs d ds as bs _ σ1 _ h1 h2 =>
      simp only [putTs] at hm
      obtain ⟨env1, m1, m2⟩ := Option.bind_eq_some_iff.mp hm
      obtain ⟨F1, r1, f1⟩ := putT_rel t v d as σ σ1 env env1 F h1 m1 r (fun j e q a ha hm => sep j e q a ha (List.mem_append_left _ hm)) (fun a ha => pv a (List.mem_append_left _ ha)) (fun i h => hi i (by simp [slotsTs, h]))
      obtain ⟨F2, r2, f2⟩ := putTs_rel rs vs ds bs σ1 σ' env1 env' F1 h2 m2 r1 (fun j e q a ha hm => by
        rcases f1 j e q with z | ⟨z, q'⟩
        · rw [z] at ha; cases ha
        · rw [z] at ha; exact sep j e q' a ha (List.mem_append_right _ hm)) (fun a ha => pv a (List.mem_append_right _ ha)) (fun i h => hi i (by simp [slotsTs, h]))
      refine ⟨F2, r2, fun j e q => ?_⟩
      rcases f2 j e q with z | ⟨z, q'⟩
      · exact .inl z
      · rcases f1 j e q' with y | ⟨y, q''⟩
        · exact .inl (z.trans y)
        · exact .inr ⟨z.trans y, q''⟩
end
/-- names take values whose lists are all new -/
def setAll : List Nat → List V → L2.St → L2.St
  | i :: r, v :: vs, σ => setAll r vs (σ.set i (some v))
  | _, _, σ => σ
theorem putAll_rel : ∀ (is : List Nat) (vs : List V) (ds : List D) (as : List Addr) (σ : L2.St) (env env' : EnvS) (F : Nat → List Addr), RpAll ca H vs ds as → as.Nodup → (∀ a ∈ as, B.H0 a = none) → (∀ j e o, env[j]? = some (some (e, o)) → ∀ a ∈ F j, a ∉ as) →
    putAll is ds env = some env' → Rel sx sa ca B ⟨env, s'⟩ σ F H → (∀ i ∈ is, sx ≠ some i) → ∃ F', Rel sx sa ca B ⟨env', s'⟩ (setAll is vs σ) F' H
  | [], _, [], _, σ, env, env', F, h, nd, nw, sep, hm, r, hi => by
    cases h
    simp only [putAll, Option.some.injEq] at hm
    subst hm
    exact ⟨F, r⟩
  | [], _, _ :: _, _, _, _, _, _, _, _, _, _, hm, _, _ => by simp [putAll] at hm
  | _ :: _, _, [], _, _, _, _, _, _, _, _, _, hm, _, _ => by simp [putAll] at hm
  | i :: is, _, d :: ds, _, σ, env, env', F, h, nd, nw, sep, hm, r, hi => by
    cases h with
    | @cons v vs _ _ as bs h1 h2 =>
      simp only [putAll] at hm
      obtain ⟨n1, n2, n3⟩ := List.nodup_append.mp nd
      have x : Sto sa ca B env F H v d true as := ⟨h1, fun _ => ⟨n1, fun a ha => .inr (nw a (List.mem_append_left _ ha)), fun j e o q a ha hm => sep j e o q a hm (List.mem_append_left _ ha)⟩, fun j e q a ha hm => sep j e true q a ha (List.mem_append_left _ hm), fun a ha => .inl (nw a (List.mem_append_left _ ha))⟩
      have r1 := Rel.put (st := ⟨env, s'⟩) r x (hi i (by simp))
      refine putAll_rel is vs ds bs (σ.set i (some v)) _ env' (setF F i as) h2 n2 (fun a ha => nw a (List.mem_append_right _ ha)) (fun j e o q a ha hmem => ?_) hm r1 (fun i h => hi i (List.mem_cons_of_mem _ h))
      rcases set_some q with ⟨zj, _, _⟩ | ⟨hj, q⟩
      · rw [zj, setF_same] at ha; exact n3 a ha a hmem rfl
      · rw [setF_ne hj] at ha; exact sep j e o q a ha (List.mem_append_right _ hmem)
end
end PV

/-! PV, part O: the check of a statement; the statements one by one. -/
namespace PV
open PySem PySem.Spec PyProof.Rows L2

section
variable (T : List FI) (N : List Str) (sx : Option Nat)
/-- a name that the body may store (not the source's) -/
def asnB (sc : Scope) (x : Str) : Bool := (match sc.names.lookup x with | some .local | some .cell => true | _ => false) && (match sx with | some i => !(atN N i x) | none => true)
def tupE : Expr → Bool
  | .Tuple .. => true
  | _ => false
def compE : Expr → Bool
  | .ListComp .. | .SetComp .. | .DictComp .. => true
  | _ => false
def chkNames (sc : Scope) : List Nat → List Expr → Bool
  | [], [] => true
  | i :: r, .Name x _ :: es => atN N i x && asnB N sx sc x && chkNames sc r es
  | _, _ => false
def swLine (ts : List Expr) : Nat := (ts.head?.map (·.pos.line)).getD 0
def swN1 (sc : Scope) (line : Nat) : Expr → Option Str
  | .Name id pos => if sc.names.lookup id == some .local && pos.line == line then some id else none
  | _ => none
def swNames (sc : Scope) (line : Nat) (ts : List Expr) : List Str := ts.filterMap (swN1 sc line)
def swapB (sc : Scope) (ts vs : List Expr) : Option Bool :=
  if !(ts.length == 2 || ts.length == 3) || vs.length != ts.length then some false
  else if vs.any starE then some false
  else if (swNames sc (swLine ts) ts).length != ts.length || (swNames sc (swLine ts) ts).eraseDups.length != (swNames sc (swLine ts) ts).length then some false
  else if vs.all (foldedForSure 8) then some false
  else if vs.all (constantsAlone 8) then none
  else some true
def chkX : List (Nat × CO) → Scope → List Expr → Bool
  | [], _, [] => true
  | (i, .no) :: r, sc, .Name x _ :: es => atN N i x && asnB N sx sc x && chkX r sc es
  | (i, .so e) :: r, sc, .Subscript (.Name n _) ix _ :: es => atN N i n && isVis sc n && okName n && chk T N sx e sc ix && chkX r sc es
  | _, _, _ => false
def chkArg : CO → Scope → List Expr → Bool
  | .no, _, [] => true
  | .so e, sc, [x] => chk T N sx e sc x && !starE x
  | _, _, _ => false
mutual
def chkS : CS → Scope → Stmt → Bool
  | .asg i _ e, sc, .Assign [.Name x _] ex _ => atN N i x && asnB N sx sc x && chk T N sx e sc ex
  | .asgT t _ e, sc, .Assign [.Tuple ts k p] ex _ => !tupE ex && chkT N (asnB N sx sc) t (.Tuple ts k p) && chk T N sx e sc ex
  | .par is es, sc, .Assign [.Tuple ts _ _] (.Tuple xs _ _) _ => chkNames N sx sc is ts && chks T N sx es sc xs && decide is.Nodup && !xs.any starE && (swapB sc ts xs).isSome
  | .setx i x e, sc, .Assign [.Subscript (.Name n _) ix _] ex _ => atN N i n && isVis sc n && okName n && !compE ex && chk T N sx x sc ix && chk T N sx e sc ex
  | .aug i o e, sc, .AugAssign (.Name x _) op ex _ => atN N i x && asnB N sx sc x && decide (opA o = op) && chk T N sx e sc ex
  | .augx i x o e, sc, .AugAssign (.Subscript (.Name n _) ix _) op ex _ => atN N i n && isVis sc n && okName n && decide (opA o = op) && chk T N sx x sc ix && chk T N sx e sc ex
  | .append i e, sc, .Expr (.Call (.Attribute (.Name n _) m ap) [x] [] cp) _ => (m == ("append" : Str)) && atN N i n && isVis sc n && okName n && (ap.endLine == cp.line) && !starE x && chk T N sx e sc x
  | .fort t _ it b, sc, .For tg i body [] _ => chkT N (asnB N sx sc) t tg && chkI T N sx it sc tg i && chkSs b sc body
  | .wh c b, sc, .While e body [] _ => chk T N sx c sc e && chkSs b sc body
  | .ifs c a b, sc, .If e x y _ => chk T N sx c sc e && chkSs a sc x && chkSs b sc y
  | .ret e, sc, .Return (some ex) _ => chk T N sx e sc ex
  | .retN, _, .Return none _ => true
  | .drop e, sc, .Expr ex _ => !compE ex && chk T N sx e sc ex
  | .pass, _, .Pass _ => true
  | .sSet f e, sc, .Assign [.Subscript (.Name n p) (.Constant (.str key) _ _) _] ex _ => (key == kF f) && srcArg N sx sc (.Name n p) && !compE ex && chk T N sx e sc ex
  | .sPop, sc, .Assign [.Subscript (.Name n p) (.Constant (.str key) _ _) _] (.Call (.Attribute (.Subscript (.Name n2 p2) (.Constant (.str key2) _ _) _) m ap) [] [] cp) _ =>
    (key == ("left" : Str)) && srcArg N sx sc (.Name n p) && (key2 == ("cells" : Str)) && srcArg N sx sc (.Name n2 p2) && (m == ("pop" : Str)) && (ap.endLine == cp.line)
  | .parX ts es, sc, .Assign [.Tuple us _ _] (.Tuple xs _ _) _ => chkX T N sx ts sc us && chks T N sx es sc xs && !xs.any starE && (swapB sc us xs == some false)
  | .popT t i o, sc, .Assign [tg] (.Call (.Attribute (.Name n _) m ap) args [] cp) _ => chkT N (asnB N sx sc) t tg && atN N i n && isVis sc n && okName n && (m == ("pop" : Str)) && (ap.endLine == cp.line) && chkArg T N sx o sc args
  | .retMix own l i f, sc, .Return (some (.ListComp (.Call (.Attribute (.Name n _) m ap) [x] [] cp) [⟨t, it, [], 0⟩] scope _)) _ =>
    blkC N sc scope own && ownLoc scope own && ownSx sx own && chkT N (fun x => (own.map (·.1)).contains x) (.name l) t && chkI T N sx (.rg1 (.bi .len (.var i) .nil)) sc t it && atN N i n && isVis (relS scope sc) n && okName n && (m == ("pop" : Str)) && (ap.endLine == cp.line) &&
      !starE x && chk T N sx (.call f (.cons (.bi .len (.var i) .nil) .nil)) (relS scope sc) x && !((own.map (·.2)).contains i)
  | .extend i e, sc, .Expr (.Call (.Attribute (.Name n _) m ap) [x] [] cp) _ => (m == ("extend" : Str)) && atN N i n && isVis sc n && okName n && (ap.endLine == cp.line) && !starE x && chk T N sx e sc x
  | .parM is _ es, sc, .Assign [.Tuple ts _ _] (.Tuple xs _ _) _ => chkNames N sx sc is ts && chks T N sx es sc xs && decide is.Nodup && !xs.any starE && (swapB sc ts xs).isSome
  | _, _, _ => false
def chkSs : CSs → Scope → List Stmt → Bool
  | .nil, _, [] => true
  | .cons a r, sc, s :: ss => chkS a sc s && chkSs r sc ss
  | _, _, _ => false
end
end

section
variable {T : List FI} {N : List Str} {sx : Option Nat} {cf : CallF} {k : Nat} {X : Cx} {sc : Scope} {W : Nat}
theorem asn_ok (x0 : XOk T N cf k X sc) (hfn : ∀ x, X.fn x = true) : AsnOk X (asnB N sx sc) := ⟨fun x h => by
  refine ⟨?_, .inl (hfn x)⟩
  have h1 := (andE h).1
  rw [x0.scp]
  split at h1
  · rename_i e; exact .inl e
  · rename_i e; exact .inr e
  · cases h1⟩
theorem asn_sx {i : Nat} {x : Str} (h : asnB N sx sc x = true) (hi : atN N i x = true) : sx ≠ some i := fun e => by
  subst e
  have h2 := (andE h).2
  simp only [hi] at h2
  cases h2
mutual
theorem slots_sx : ∀ (ct : CT) (e : Expr), chkT N (asnB N sx sc) ct e = true → ∀ i ∈ slotsT ct, sx ≠ some i
  | .name i, e, h, j, hj => by
    cases e <;> first | (simp [chkT] at h; done) | skip
    simp only [chkT] at h
    obtain ⟨h1, h2⟩ := andE h
    simp only [slotsT, List.mem_singleton] at hj
    subst hj
    exact asn_sx h2 h1
  | .tup ts, e, h, j, hj => by
    cases e <;> first | (simp [chkT] at h; done) | skip
    simp only [chkT] at h
    exact slotss_sx ts _ h j (by simpa [slotsT] using hj)
theorem slotss_sx : ∀ (ct : CTs) (e : List Expr), chkTs N (asnB N sx sc) ct e = true → ∀ i ∈ slotsTs ct, sx ≠ some i
  | .nil, _, _, j, hj => by simp [slotsTs] at hj
  | .cons _ _, [], h, _, _ => by simp [chkTs] at h
  | .cons t r, e :: es, h, j, hj => by
    simp only [chkTs] at h
    obtain ⟨h1, h2⟩ := andE h
    simp only [slotsTs, List.mem_append] at hj
    rcases hj with hj | hj
    · exact slots_sx t e h1 j hj
    · exact slotss_sx r es h2 j hj
end
theorem chk_ix {a : CE} {e : Expr} (h : chk T N sx a sc e = true) : PlainIx e ∧ ∀ ov iv new, augStore e ov iv new = (do holding [new, ov, iv] (setItem ov iv new); release [new, ov, iv] []; pure .next) := by
  cases e <;> first | exact ⟨fun _ _ => rfl, fun _ _ _ => rfl⟩ | (cases a <;> simp [chk] at h; done)
theorem sw_plain {e : Expr} {tg : Option Expr} {l : Nat} {env : PySem.Env} (h : compE e = false) : swapsWith e tg l env = pure false := by
  cases e <;> first | rfl | cases h
theorem chk_comp {a : CE} {e : Expr} (h : chk T N sx a sc e = true) (hc : compE e = true) : ∃ elt t i ifs scope p own tg it c ce, e = .ListComp elt [⟨t, i, ifs, 0⟩] scope p ∧ a = .lc own tg it c ce := by
  cases e <;> first | (cases hc; done) | skip
  · cases a <;> first | (simp [chk] at h; done) | skip
    rename_i elt gens scope p own tg it c ce
    match gens, h with
    | [], h => simp [chk] at h
    | _ :: _ :: _, h => simp [chk] at h
    | [⟨t, i, ifs, a⟩], h =>
      by_cases ha : a = 0
      · subst ha
        exact ⟨elt, t, i, ifs, scope, p, own, tg, it, c, ce, rfl, rfl⟩
      · simp [chk, ha] at h
  · cases a <;> simp [chk] at h
  · cases a <;> simp [chk] at h

/-! ### name = value -/
theorem asg_imp {i : Nat} {me : List Nat} {e : CE} (hi : sx ≠ some i) {te : TE} (hte : ∀ σ H Q, tE sx (run cf e) σ H Q → te σ H Q) (D : Ends) (σ : L2.St) (H : Hp) (h : tS sx (ex cf W (.asg i me e)) D σ H) : tAsg te (gName i) D σ H := by
  obtain ⟨sa, ca, B, st, F, fl, st', r, hm, q⟩ := h
  simp only [ex] at hm
  split at hm
  · rename_i d o st1 h1
    cases hm
    exact hte _ _ _ (store_imp r h1 fun v H' as r1 x => q _ _ _ (r1.put x hi))
  · cases hm
theorem s_asg {i : Nat} {me : List Nat} {e : CE} {x : Str} {px pos : Pos} {ex0 : Expr} (lo : LenOk T cf) (x0 : XOk T N cf k X sc) (hfn : ∀ x, X.fn x = true) (h1 : atN N i x = true) (h2 : asnB N sx sc x = true) (h3 : chk T N sx e sc ex0 = true) :
    PS X (.Assign [.Name x px] ex0 pos) (tS sx (ex cf W (.asg i me e))) := by
  have ao := (asn_ok x0 hfn).ok x h2
  have hN : X.N[i]? = some x := by rw [x0.nm]; exact atN_ok h1
  have nd : X.N.Nodup := by rw [x0.nm]; exact x0.nd
  have GG := ((all_ok lo).1 e sc ex0 X x0 h3).pe
  have plain : swapsWith ex0 (some (.Name x px)) pos.line X.env = pure false → PS X (.Assign [.Name x px] ex0 pos) (tS sx (ex cf W (.asg i me e))) := fun hs =>
    (ps_set nd hN ao.1 GG hs (.inl (hfn x))).pvImp fun D σ H h => asg_imp (asn_sx h2 h1) (fun _ _ _ z => z) D σ H h
  cases hc : compE ex0 with
  | false => exact plain (sw_plain hc)
  | true =>
    obtain ⟨elt, t, it0, ifs, scope, p, own, tg, it, c, ce, rfl, rfl⟩ := chk_comp h3 hc
    have kb : X.env.blockKind = .function := by unfold Env.blockKind; rw [x0.scp, x0.kind]; rfl
    have sw : swapsWith (.ListComp elt [⟨t, it0, ifs, 0⟩] scope p) (some (.Name x px)) pos.line X.env = pure (X.env.kindOf x == some .local && px.line == p.line && !(scope.names.any fun (n, k) => n == x && (k == .local || k == .cell))) := by
      unfold swapsWith
      simp only [kb]
      rfl
    cases hb : (X.env.kindOf x == some .local && px.line == p.line && !(scope.names.any fun (n, k) => n == x && (k == .local || k == .cell))) with
    | false => exact plain (by rw [sw, hb])
    | true =>
      have hyl : X.env.scope.names.lookup x = some .local := by
        have := (andE (andE hb).1).1
        exact beq_iff_eq.mp this
      have h := h3
      simp only [chk] at h
      obtain ⟨h, g7⟩ := andE h
      obtain ⟨h, g6⟩ := andE h
      obtain ⟨h, g5⟩ := andE h
      obtain ⟨h, g4⟩ := andE h
      obtain ⟨h, g3⟩ := andE h
      obtain ⟨g1, g2⟩ := andE h
      have okb : BlkOk N sc scope own := blkOk_by g1
      obtain ⟨A1, A2, A3, _, _⟩ := all_ok (T := T) (N := N) (sx := sx) (cf := cf) (k := k) lo
      obtain ⟨pi, ps⟩ := A3 it sc t it0 X x0 g5
      have hcs := fun s H C cl fp => A2 c _ ifs _ (x0.blk okb.kind s H C cl fp) g6
      have hes := fun s H C cl fp => (A1 ce _ elt _ (x0.blk okb.kind s H C cl fp) g7).pe
      have key := (g_lc (pos := p) x0 g1 g2 g3 g4 pi hcs hes ps).2
      exact (ps_setLc (own := own) x0.calm nd hN hyl (by rw [sw, hb]) pi (by rw [x0.nm, x0.scp]; exact okb) (fun s H C cl fp => pg_ct (x0.blk okb.kind s H C cl fp).nm x0.nd x0.calm (blk_asn x0 g2 s H C cl fp) tg t g4) hcs hes ps).pvImp
        fun D σ H h => asg_imp (asn_sx h2 h1) key D σ H h

/-! ### a, b = value -/
theorem s_asgT {t : CT} {me : List Nat} {e : CE} {ts : List Expr} {kk : Nat} {p pos : Pos} {ex0 : Expr} (x0 : XOk T N cf k X sc) (hfn : ∀ x, X.fn x = true) (h1 : tupE ex0 = false) (h2 : chkT N (asnB N sx sc) t (.Tuple ts kk p) = true) (he : PE X ex0 (tE sx (run cf e))) :
    PS X (.Assign [.Tuple ts kk p] ex0 pos) (tS sx (ex cf W (.asgT t me e))) := by
  refine (ps_asg he (pg_ct x0.nm x0.nd x0.calm (asn_ok x0 hfn) t _ h2) (by cases ex0 <;> rfl) (by cases ex0 <;> first | rfl | cases h1) rfl).pvImp fun D σ H ⟨sa, ca, B, st, F, fl, st', r, hm, q⟩ => ?_
  simp only [ex] at hm
  split at hm
  · rename_i d o st1 h3
    obtain ⟨env, hp, e1⟩ := Option.map_eq_some_iff.mp hm
    cases e1
    refine store_imp r h3 fun v H' as r1 x => ⟨ca, d, as, x.rp, putT_shape _ _ _ _ hp, fun σ' hV => ?_⟩
    obtain ⟨F', r2, _⟩ := putT_rel t v d as σ σ' st1.env env F hV hp (s' := st1.src) r1 x.sep x.prov (slots_sx t _ h2)
    exact q _ _ _ r2
  · cases hm

/-! ### a, b = x, y -/
theorem chkNames_len : ∀ (is : List Nat) (ts : List Expr), chkNames N sx sc is ts = true → is.length = ts.length
  | [], [], _ => rfl
  | [], _ :: _, h => by simp [chkNames] at h
  | _ :: _, [], h => by simp [chkNames] at h
  | i :: r, e :: es, h => by
    cases e <;> simp only [chkNames] at h <;> first | (cases h; done) | skip
    simp [chkNames_len r es (andE h).2]
theorem chkNames_sx : ∀ (is : List Nat) (ts : List Expr), chkNames N sx sc is ts = true → ∀ i ∈ is, sx ≠ some i
  | [], _, _, i, h => by cases h
  | _ :: _, [], h, _, _ => by simp [chkNames] at h
  | i :: r, e :: es, h, j, hj => by
    cases e <;> simp only [chkNames] at h <;> first | (cases h; done) | skip
    obtain ⟨h1, h2⟩ := andE h
    obtain ⟨h3, h4⟩ := andE h1
    rcases List.mem_cons.mp hj with rfl | hj
    · exact asn_sx h4 h3
    · exact chkNames_sx r es h2 j hj
def tSet (is : List Nat) : TGs := fun vs σ H Q => vs.length = is.length ∧ Q (setAll is vs σ) H
theorem pgs_names (x0 : XOk T N cf k X sc) (hfn : ∀ x, X.fn x = true) : ∀ (is : List Nat) (ts : List Expr), chkNames N sx sc is ts = true → PGs X ts (tSet is) ∧ (assignEach ts X.env).length = ts.length ∧ (assignEach ts X.env).findIdx? (·.1) = none
  | [], [], _ => ⟨pgs_nil.pvImp fun vs σ H Q ⟨h, q⟩ => by
      have e : vs = [] := List.eq_nil_of_length_eq_zero h
      subst e
      exact ⟨rfl, q⟩, rfl, rfl⟩
  | [], _ :: _, h => by simp [chkNames] at h
  | _ :: _, [], h => by simp [chkNames] at h
  | i :: r, e :: es, h => by
    cases e <;> simp only [chkNames] at h <;> first | (cases h; done) | skip
    rename_i x p
    obtain ⟨h1, h2⟩ := andE h
    obtain ⟨h3, h4⟩ := andE h1
    obtain ⟨g1, g2, g3⟩ := pgs_names x0 hfn r es h2
    have ao := (asn_ok x0 hfn).ok x h4
    refine ⟨(pgs_cons (pg_name (by rw [x0.nm]; exact x0.nd) (by rw [x0.nm]; exact atN_ok h3) ao.1 (.inl (hfn x))) g1 rfl).pvImp fun vs σ H Q ⟨hl, q⟩ => ?_, by rw [assignEach_cons rfl]; simp [g2], by rw [assignEach_cons rfl, List.findIdx?_cons]; simp [g3]⟩
    cases vs with
    | nil => simp at hl
    | cons v vs => exact ⟨v, vs, rfl, by simpa using hl, q⟩
theorem filterMap_len {α β : Type} {f : α → Option β} : ∀ {l : List α}, (l.filterMap f).length ≤ l.length := List.length_filterMap_le _ _
theorem starE_eq : (fun (e : Expr) => match e with | .Starred .. => true | _ => false) = starE := by
  funext e; cases e <;> rfl
theorem swap_eq {ts vs : List Expr} {kt k2 : Nat} {pt p2 : Pos} (x0 : XOk T N cf k X sc) {b : Bool} (h : swapB sc ts vs = some b) :
    swappedStores [.Tuple ts kt pt] (.Tuple vs k2 p2) X.env = pure (if b = true then some (swNames sc (swLine ts) ts) else none) := by
  have kb : X.env.blockKind = .function := by unfold Env.blockKind; rw [x0.scp, x0.kind]; rfl
  have ko : ∀ x, X.env.kindOf x = sc.names.lookup x := fun x => by show X.env.scope.names.lookup x = _; rw [x0.scp]
  unfold swapB at h
  unfold swappedStores
  simp only [kb, ko, pure_bind]
  have e1 : (ScopeKind.function != ScopeKind.function) = false := rfl
  simp only [e1, Bool.or_false]
  split at h
  · rename_i c1
    cases h
    rw [if_pos c1]
    rfl
  · rename_i c1
    rw [if_neg c1]
    have c1' := c1
    split at h
    · rename_i c2
      cases h
      have c2' : (vs.any fun (e : Expr) => match e with | .Starred .. => true | _ => false) = true := by rw [starE_eq]; exact c2
      refine (if_pos ?_).trans rfl
      exact c2'
    · rename_i c2
      have c2' : ¬ (vs.any fun (e : Expr) => match e with | .Starred .. => true | _ => false) = true := by rw [starE_eq]; exact c2
      refine (if_neg ?_).trans ?_
      · exact c2'
      have e2 : (ts.filterMap fun (e : Expr) => match e with | .Name id pos => if (sc.names.lookup id == some NameKind.local && pos.line == (Option.map (fun x => x.pos.line) ts.head?).getD 0) = true then some id else none | _ => none) = swNames sc (swLine ts) ts := rfl
      split at h
      · rename_i c3
        cases h
        exact if_pos c3
      · rename_i c3
        split at h
        · rename_i c4
          cases h
          refine (if_neg c3).trans ?_
          exact if_pos c4
        · rename_i c4
          split at h
          · cases h
          · rename_i c5
            cases h
            refine (if_neg c3).trans ((if_neg c4).trans ((if_neg c5).trans ?_))
            rfl
end
end PV

/-! PV, part P: several names at once; lists written. -/
namespace PV
open PySem PySem.Spec PyProof.Rows L2
section
variable {T : List FI} {N : List Str} {sx : Option Nat} {cf : CallF} {k : Nat} {X : Cx} {sc : Scope} {W : Nat}

/-! ### a, b = x, y -/
theorem par_run {is : List Nat} {es : CEs} {st st' : S} {fl : Fl} (h : ex cf W (.par is es) st = some (fl, st')) : ∃ ds s1 env, runs cf es (vals st.env) st.src = some (ds, true, s1) ∧ fitsLine ds.length = true ∧ putAll is ds st.env = some env ∧ fl = .nx ∧ st' = ⟨env, s1⟩ := by
  simp only [ex] at h
  split at h
  · rename_i ds fr s1 h1
    split at h
    · rename_i hf
      obtain ⟨hf, hz⟩ := andE hf
      obtain ⟨env, hp, e⟩ := Option.map_eq_some_iff.mp h
      cases e
      subst hf
      exact ⟨ds, s1, env, h1, hz, hp, rfl, rfl⟩
    · cases h
  · cases h
theorem putAll_len : ∀ (is : List Nat) (ds : List D) (env env' : EnvS), putAll is ds env = some env' → is.length = ds.length
  | [], [], _, _, _ => rfl
  | [], _ :: _, _, _, h => by simp [putAll] at h
  | _ :: _, [], _, _, h => by simp [putAll] at h
  | i :: is, d :: ds, env, env', h => by
    simp only [putAll] at h
    simp [putAll_len is ds _ _ h]
theorem par_fin {sa ca : Addr} {B : Base} {st : S} {σ : L2.St} {F : Nat → List Addr} {H H' H2 : Hp} {s1 : Src} {is : List Nat} {ds : List D} {vs : List V} {as : List Addr} {env : EnvS} (r : Rel sx sa ca B st σ F H) (res : ResL sa ca H (vals st.env) F ds true s1 vs H' as)
    (hp : putAll is ds st.env = some env) (hi : ∀ i ∈ is, sx ≠ some i) (hs : Same H' H2) (x2 : SrcAt sa ca s1 H2) : ∃ F', Rel sx sa ca B ⟨env, s1⟩ (setAll is vs σ) F' H2 := by
  have f := res.fr rfl
  have g2 : Grow sa ca H' H2 := ⟨fun a o _ _ e => hs a o e, fun a e => same_dom hs e, fun a xs e => hs a _ e⟩
  have r1 : Rel sx sa ca B ⟨st.env, s1⟩ σ F H2 := r.grow (res.g.trans g2) x2
  exact putAll_rel is vs ds as σ st.env env F (res.rp.grow res.src g2) f.1 (fun a ha => r.kp.dom a (f.2 a ha)) (fun j e o q a ha hm => r.trk q a ha (f.2 a hm)) hp r1 hi
theorem swN_len {line : Nat} {es : List Expr} : (swNames sc line es).length ≤ es.length := List.length_filterMap_le _ _
theorem swN1_some {line : Nat} {e : Expr} {z : Str} (h : swN1 sc line e = some z) : ∃ p, e = .Name z p ∧ sc.names.lookup z = some .local := by
  cases e <;> simp only [swN1] at h <;> first | (cases h; done) | skip
  split at h
  · rename_i hc
    cases h
    exact ⟨_, rfl, by simpa using (andE hc).1⟩
  · cases h
theorem swN_cons {line : Nat} {e : Expr} {es : List Expr} (h : (swNames sc line (e :: es)).length = (e :: es).length) : ∃ z, swN1 sc line e = some z ∧ swNames sc line (e :: es) = z :: swNames sc line es ∧ (swNames sc line es).length = es.length := by
  cases hz : swN1 sc line e with
  | none =>
    have e1 : swNames sc line (e :: es) = swNames sc line es := by unfold swNames; rw [List.filterMap_cons_none hz]
    rw [e1, List.length_cons] at h
    have := swN_len (sc := sc) (line := line) (es := es)
    omega
  | some z =>
    have e1 : swNames sc line (e :: es) = z :: swNames sc line es := by unfold swNames; rw [List.filterMap_cons_some hz]
    rw [e1, List.length_cons, List.length_cons] at h
    exact ⟨z, rfl, e1, Nat.succ.inj h⟩
theorem chkNames_cons {i : Nat} {r : List Nat} {e : Expr} {es : List Expr} (h : chkNames N sx sc (i :: r) (e :: es) = true) : ∃ x p, e = .Name x p ∧ atN N i x = true ∧ asnB N sx sc x = true ∧ chkNames N sx sc r es = true := by
  cases e <;> simp only [chkNames] at h <;> first | (cases h; done) | skip
  obtain ⟨h1, h2⟩ := andE h
  obtain ⟨h3, h4⟩ := andE h1
  exact ⟨_, _, rfl, h3, h4, h2⟩
theorem chkNames_nil {r : List Nat} (h : chkNames N sx sc r [] = true) : r = [] := by cases r <;> simp [chkNames] at h ⊢
theorem swapB_true {ts vs : List Expr} (h : swapB sc ts vs = some true) : (ts.length = 2 ∨ ts.length = 3) ∧ vs.length = ts.length ∧ (swNames sc (swLine ts) ts).length = ts.length := by
  unfold swapB at h
  split at h
  · cases h
  · rename_i c1
    split at h
    · cases h
    · split at h
      · cases h
      · rename_i c3
        simp only [Bool.or_eq_true, not_or, Bool.not_eq_true, Bool.not_eq_false', bne_eq_false_iff_eq, Bool.not_eq_eq_eq_not, beq_iff_eq, Bool.not_true] at c1 c3
        refine ⟨?_, c1.2, c3.1⟩
        have := c1.1
        simp at this
        omega
theorem s_parG {is : List Nat} {es : CEs} {ts xs : List Expr} {kt k2 : Nat} {pt p2 pos : Pos} {t0 : TS} (F0 : ∀ D σ H, t0 D σ H → tEs sx (runs cf es) σ H fun vs H1 => vs.length = is.length ∧ vs.length ≤ sizeLine ∧ ∀ H2, Same H1 H2 → D.nx (setAll is vs σ) H2) (x0 : XOk T N cf k X sc) (hfn : ∀ x, X.fn x = true) (h1 : chkNames N sx sc is ts = true) (hes : PA X xs (tEs sx (runs cf es))) (hnd : is.Nodup) (hst : xs.any starE = false) (hsw : (swapB sc ts xs).isSome = true) :
    PS X (.Assign [.Tuple ts kt pt] (.Tuple xs k2 p2) pos) t0 := by
  obtain ⟨b, hb⟩ := Option.isSome_iff_exists.mp hsw
  have sw := swap_eq (kt := kt) (k2 := k2) (pt := pt) (p2 := p2) x0 hb
  have hix := chkNames_sx is ts h1
  have nd : X.N.Nodup := by rw [x0.nm]; exact x0.nd
  have at' : ∀ {i x}, atN N i x = true → X.N[i]? = some x := fun h => by rw [x0.nm]; exact atN_ok h
  have lc : ∀ {x}, sc.names.lookup x = some .local → X.env.scope.names.lookup x = some .local := fun h => by rw [x0.scp]; exact h
  cases b with
  | false =>
    obtain ⟨g1, g2, g3⟩ := pgs_names x0 hfn is ts h1
    refine (ps_asg (pe_tup hes) (pg_tup (n := ts.length) x0.calm g1 g2 g3) rfl sw rfl).pvImp fun D σ H h => ?_
    obtain ⟨sa, ca, env, s, F, d, fr, s', c1, c2, c3, c4⟩ := F0 D σ H h
    refine ⟨sa, ca, env, s, F, d, fr, s', c1, c2, c3, fun vs H' as res => ?_⟩
    obtain ⟨lv, lz, q⟩ := c4 vs H' as res
    have lt : is.length = ts.length := chkNames_len is ts h1
    exact ⟨lz, fun t ht => ⟨t, vs, rfl, .of upd_same, by omega, by omega, q _ (same_new ht)⟩⟩
  | true =>
    obtain ⟨l1, l2, l3⟩ := swapB_true hb
    have sw' := sw
    rw [if_pos rfl] at sw'
    have fin : ∀ D σ H, t0 D σ H → tEs sx (runs cf es) σ H fun vs H1 => vs.length = is.length ∧ D.nx (setAll is vs σ) H1 := fun D σ H h => by
      obtain ⟨sa, ca, env, s, F, d, fr, s', c1, c2, c3, c4⟩ := F0 D σ H h
      refine ⟨sa, ca, env, s, F, d, fr, s', c1, c2, c3, fun vs H' as res => ?_⟩
      obtain ⟨lv, lz, q⟩ := c4 vs H' as res
      exact ⟨lv, q _ (fun _ _ e => e)⟩
    match ts, xs, l2, is, h1, hnd with
    | [], _, _, _, _, _ => simp at l1
    | [_], _, _, _, _, _ => simp at l1
    | [t1, t2], [a, b], _, is, h1, hnd =>
      match is, h1, hnd, fin with
      | [], h1, _, _ => simp [chkNames] at h1
      | [_], h1, _, _ => exact absurd (chkNames_len _ _ h1) (by simp)
      | _ :: _ :: _ :: _, h1, _, _ => exact absurd (chkNames_len _ _ h1) (by simp)
      | [i, j], h1, hnd, fin =>
        obtain ⟨x, px, rfl, a1, b1, h1⟩ := chkNames_cons h1
        obtain ⟨y, py, rfl, a2, b2, h1⟩ := chkNames_cons h1
        obtain ⟨z1, e1, f1, l4⟩ := swN_cons l3
        obtain ⟨z2, e2, f2, l5⟩ := swN_cons l4
        obtain ⟨_, q1, o1⟩ := swN1_some e1
        obtain ⟨_, q2, o2⟩ := swN1_some e2
        cases q1
        cases q2
        rw [f1, f2, show swNames sc (swLine _) [] = [] from rfl] at sw'
        refine (ps_par x0.calm nd (at' a1) (at' a2) (by simpa using hnd) (lc o1) (lc o2) hes sw').pvImp fun D σ H h => ?_
        obtain ⟨sa, ca, env, s, F, d, fr, s', c1, c2, c3, c4⟩ := fin D σ H h
        refine ⟨sa, ca, env, s, F, d, fr, s', c1, c2, c3, fun vs H' as res => ?_⟩
        obtain ⟨hl, hq⟩ := c4 vs H' as res
        match vs, hl, hq with
        | [v, w], _, hq => exact ⟨v, w, rfl, hq⟩
    | [t1, t2, t3], [a, b, c], _, is, h1, hnd =>
      match is, h1, hnd, fin with
      | [], h1, _, _ => simp [chkNames] at h1
      | [_], h1, _, _ => exact absurd (chkNames_len _ _ h1) (by simp)
      | [_, _], h1, _, _ => exact absurd (chkNames_len _ _ h1) (by simp)
      | _ :: _ :: _ :: _ :: _, h1, _, _ => exact absurd (chkNames_len _ _ h1) (by simp)
      | [i, j, l], h1, hnd, fin =>
        obtain ⟨x, px, rfl, a1, b1, h1⟩ := chkNames_cons h1
        obtain ⟨y, py, rfl, a2, b2, h1⟩ := chkNames_cons h1
        obtain ⟨z, pz, rfl, a3, b3, h1⟩ := chkNames_cons h1
        obtain ⟨z1, e1, f1, l4⟩ := swN_cons l3
        obtain ⟨z2, e2, f2, l5⟩ := swN_cons l4
        obtain ⟨z3, e3, f3, l6⟩ := swN_cons l5
        obtain ⟨_, q1, o1⟩ := swN1_some e1
        obtain ⟨_, q2, o2⟩ := swN1_some e2
        obtain ⟨_, q3, o3⟩ := swN1_some e3
        cases q1
        cases q2
        cases q3
        rw [f1, f2, f3, show swNames sc (swLine _) [] = [] from rfl] at sw'
        have hn : i ≠ j ∧ i ≠ l ∧ j ≠ l := by simp at hnd; exact ⟨hnd.1.1, hnd.1.2, hnd.2⟩
        refine (ps_par3 x0.calm nd (at' a1) (at' a2) (at' a3) hn.1 hn.2.1 hn.2.2 (lc o1) (lc o2) (lc o3) hes sw').pvImp fun D σ H h => ?_
        obtain ⟨sa, ca, env, s, F, d, fr, s', c1, c2, c3, c4⟩ := fin D σ H h
        refine ⟨sa, ca, env, s, F, d, fr, s', c1, c2, c3, fun vs H' as res => ?_⟩
        obtain ⟨hl, hq⟩ := c4 vs H' as res
        match vs, hl, hq with
        | [u, v, w], _, hq => exact ⟨u, v, w, rfl, hq⟩
    | _ :: _ :: _ :: _ :: _, _, _, _, _, _ => simp at l1
    | [_, _], [], l, _, _, _ => simp at l
    | [_, _], [_], l, _, _, _ => simp at l
    | [_, _], _ :: _ :: _ :: _, l, _, _, _ => simp at l
    | [_, _, _], [], l, _, _, _ => simp at l
    | [_, _, _], [_], l, _, _, _ => simp at l
    | [_, _, _], [_, _], l, _, _, _ => simp at l
    | [_, _, _], _ :: _ :: _ :: _ :: _, l, _, _, _ => simp at l
theorem par_src {sa ca : Addr} {s : Src} {H H2 : Hp} (x : SrcAt sa ca s H) (hs : Same H H2) : SrcAt sa ca s H2 := ⟨hs _ _ x.1, hs _ _ x.2⟩
theorem s_par {is : List Nat} {es : CEs} {ts xs : List Expr} {kt k2 : Nat} {pt p2 pos : Pos} (x0 : XOk T N cf k X sc) (hfn : ∀ x, X.fn x = true) (h1 : chkNames N sx sc is ts = true) (hes : PA X xs (tEs sx (runs cf es))) (hnd : is.Nodup) (hst : xs.any starE = false) (hsw : (swapB sc ts xs).isSome = true) :
    PS X (.Assign [.Tuple ts kt pt] (.Tuple xs k2 p2) pos) (tS sx (ex cf W (.par is es))) := by
  refine s_parG (es := es) (fun D σ H ⟨sa, ca, B, st, F, fl, st', r, hm, q⟩ => ?_) x0 hfn h1 hes hnd hst hsw
  obtain ⟨ds, s1, env, hr, hz, hp, rfl, rfl⟩ := par_run hm
  refine ⟨sa, ca, _, _, F, ds, true, s1, r.src, r.env, hr, fun vs H' as res => ?_⟩
  have lv : vs.length = ds.length := res.rp.len
  refine ⟨by rw [lv, putAll_len is ds _ _ hp], by rw [lv]; exact of_decide_eq_true hz, fun H2 hs => ?_⟩
  obtain ⟨F', r2⟩ := par_fin (H2 := H2) r res hp (chkNames_sx is ts h1) hs (par_src res.src hs)
  exact q _ _ _ r2
theorem putAllM_len : ∀ (is : List Nat) (ds : List D) (env env' : EnvS), putAllM is ds env = some env' → is.length = ds.length
  | [], [], _, _, _ => rfl
  | [], _ :: _, _, _, h => by simp [putAllM] at h
  | _ :: _, [], _, _, h => by simp [putAllM] at h
  | i :: is, d :: ds, env, env', h => by
    simp only [putAllM] at h
    simp [putAllM_len is ds _ _ h]
theorem putAllM_rel {sa ca : Addr} {B : Base} {H : Hp} {s' : Src} : ∀ (is : List Nat) (vs : List V) (ds : List D) (as : List Addr) (σ : L2.St) (env env' : EnvS) (F : Nat → List Addr), RpAll ca H vs ds as → (∀ j e, env[j]? = some (some (e, true)) → ∀ a ∈ F j, a ∉ as) → (∀ a ∈ as, B.H0 a = none ∨ B.P a) →
    putAllM is ds env = some env' → Rel sx sa ca B ⟨env, s'⟩ σ F H → (∀ i ∈ is, sx ≠ some i) → ∃ F', Rel sx sa ca B ⟨env', s'⟩ (setAll is vs σ) F' H
  | [], _, [], _, σ, env, env', F, h, sep, pv, hm, r, hi => by
    cases h
    simp only [putAllM, Option.some.injEq] at hm
    subst hm
    exact ⟨F, r⟩
  | [], _, _ :: _, _, _, _, _, _, _, _, _, hm, _, _ => by simp [putAllM] at hm
  | _ :: _, _, [], _, _, _, _, _, _, _, _, hm, _, _ => by simp [putAllM] at hm
  | i :: is, _, d :: ds, _, σ, env, env', F, h, sep, pv, hm, r, hi => by
    cases h with
    | @cons v vs _ _ as bs h1 h2 =>
      simp only [putAllM] at hm
      have x : Sto sa ca B env F H v d (noL d) as := ⟨h1, fun h => by
        rw [h1.noL_nil h]
        exact ⟨List.nodup_nil, by simp, by simp⟩, fun j e q a ha hm => sep j e q a ha (List.mem_append_left _ hm), fun a ha => pv a (List.mem_append_left _ ha)⟩
      have r1 := Rel.put (st := ⟨env, s'⟩) r x (hi i (by simp))
      refine putAllM_rel is vs ds bs (σ.set i (some v)) _ env' (setF F i as) h2 (fun j e q a ha hmem => ?_) (fun a ha => pv a (List.mem_append_right _ ha)) hm r1 (fun i h => hi i (List.mem_cons_of_mem _ h))
      rcases set_some q with ⟨zj, zz, _⟩ | ⟨hj, q⟩
      · simp only [Prod.mk.injEq] at zz
        rw [zj, setF_same, h1.noL_nil zz.2.symm] at ha
        cases ha
      · rw [setF_ne hj] at ha; exact sep j e q a ha (List.mem_append_right _ hmem)
theorem s_parM {is me : List Nat} {es : CEs} {ts xs : List Expr} {kt k2 : Nat} {pt p2 pos : Pos} (x0 : XOk T N cf k X sc) (hfn : ∀ x, X.fn x = true) (h1 : chkNames N sx sc is ts = true) (hes : PA X xs (tEs sx (runs cf es))) (hnd : is.Nodup) (hst : xs.any starE = false) (hsw : (swapB sc ts xs).isSome = true) :
    PS X (.Assign [.Tuple ts kt pt] (.Tuple xs k2 p2) pos) (tS sx (ex cf W (.parM is me es))) := by
  refine s_parG (es := es) (fun D σ H ⟨sa, ca, B, st, F, fl, st', r, hm, q⟩ => ?_) x0 hfn h1 hes hnd hst hsw
  simp only [ex] at hm
  split at hm <;> first | (cases hm; done) | skip
  rename_i ds fr s1 hr
  split at hm
  · rename_i hf
    subst hf
    split at hm <;> first | (cases hm; done) | skip
    rename_i hz
    obtain ⟨env, hp, e⟩ := Option.map_eq_some_iff.mp hm
    cases e
    refine ⟨sa, ca, _, _, F, ds, true, s1, r.src, r.env, hr, fun vs H' as res => ?_⟩
    have lv : vs.length = ds.length := res.rp.len
    refine ⟨by rw [lv, putAll_len is ds _ _ hp], by rw [lv]; exact of_decide_eq_true hz, fun H2 hs => ?_⟩
    obtain ⟨F', r2⟩ := par_fin (H2 := H2) r res hp (chkNames_sx is ts h1) hs (par_src res.src hs)
    exact q _ _ _ r2
  · split at hm <;> first | (cases hm; done) | skip
    rename_i ds2 fr2 s2 hr2
    split at hm <;> first | (cases hm; done) | skip
    rename_i hz
    obtain ⟨env, hp, e⟩ := Option.map_eq_some_iff.mp hm
    cases e
    refine ⟨sa, ca, _, _, F, ds2, fr2, s2, r.src, r.envM me, hr2, fun vs H' as res => ?_⟩
    have lv : vs.length = ds2.length := res.rp.len
    refine ⟨by rw [lv, putAllM_len is ds2 _ _ hp], by rw [lv]; exact of_decide_eq_true hz, fun H2 hs => ?_⟩
    have g2 : Grow sa ca H' H2 := ⟨fun a o _ _ e => hs a o e, fun a e => same_dom hs e, fun a xs e => hs a _ e⟩
    have r1 := (r.frz me).grow (s' := s2) (res.g.trans g2) (par_src res.src hs)
    have h1' : ∀ j e, (frz me st.env)[j]? = some (some (e, true)) → ∀ a ∈ F j, a ∉ as := fun j e qq a ha hmem => by
      obtain ⟨o', q', hh⟩ := frz_any qq
      obtain ⟨hj, rfl⟩ := hh rfl
      rcases res.al a hmem with n | n
      · exact r.trk q' a ha n
      · obtain ⟨i, e2, o2, hi, q2, ha2⟩ := al_mask n
        rcases hj with hj | hj
        · exact (r.own j e q').2.2 i e2 o2 (fun z => hj (z ▸ hi)) q2 a ha ha2
        · rw [r.noLF q' hj] at ha; cases ha
    have h2' : ∀ a ∈ as, B.H0 a = none ∨ B.P a := fun a ha => by
      rcases res.al a ha with n | n
      · exact .inl (r.kp.dom a n)
      · obtain ⟨i, e2, o2, hi, q2, ha2⟩ := al_mask n
        exact r.prov i e2 o2 q2 a ha2
    obtain ⟨F', r2⟩ := putAllM_rel is vs ds2 as σ (frz me st.env) env F (res.rp.grow res.src g2) h1' h2' hp r1 (chkNames_sx is ts h1)
    exact q _ _ _ r2
end
end PV

/-! PV, part Q: lists written, the small statements. -/
namespace PV
open PySem PySem.Spec PyProof.Rows L2
section
variable {T : List FI} {N : List Str} {sx : Option Nat} {cf : CallF} {k : Nat} {X : Cx} {sc : Scope} {W : Nat}
theorem slot_var {i : Nat} {x : Str} {p : Pos} (x0 : XOk T N cf k X sc) (h1 : atN N i x = true) (h2 : isVis sc x = true) (h3 : okName x = true) : PE X (.Name x p) (tVar i) := by
  obtain ⟨o1, o2, _⟩ := okName_ok h3
  exact pe_var (by rw [x0.nm]; exact atN_ok h1) (by rw [x0.scp]; exact isVis_ok h2) o1 o2
/-- a written item: what is put in is new -/
theorem Rel.writeSet {sa ca : Addr} {B : Base} {st : S} {σ : L2.St} {F : Nat → List Addr} {H : Hp} {i j : Nat} {ds : List D} {d : D} {v : V} {cs : List Addr} (r : Rel sx sa ca B st σ F H) (e : st.env[i]? = some (some (.list ds, true)))
    (rp : Rp ca H v d cs) (cn : cs.Nodup) (cb : ∀ a ∈ cs, B.H0 a = none) (cf : ∀ j e o, st.env[j]? = some (some (e, o)) → ∀ a ∈ F j, a ∉ cs) :
    ∃ p xs, σ[i]? = some (some (.ref p)) ∧ H p = some (.lst xs) ∧ xs.length = ds.length ∧ (∃ F', Rel sx sa ca B ⟨st.env.set i (some (.list (ds.set j d), true)), st.src⟩ σ F' (upd H p (.lst (xs.set j v)))) ∧ ∃ F', Rel sx sa ca B ⟨st.env.set i (some (.list (ds ++ [d]), true)), st.src⟩ σ F' (upd H p (.lst (xs ++ [v]))) := by
  obtain ⟨p, xs, as, ev, hp, hF, rv, np, nd, ob, sep, pv⟩ := r.ownList e
  obtain ⟨bs, rn, sub, hn⟩ := rv.set (j := j) rp
  have pF : p ∈ F i := by rw [hF]; exact List.mem_cons_self
  have hc : ∀ a ∈ as, a ∉ cs := fun a ha hm => cf i _ _ e a (by rw [hF]; exact List.mem_cons_of_mem _ ha) hm
  have nb := hn nd cn hc
  refine ⟨p, xs, ev, hp, rv.len, ⟨_, r.write e hF hp ev rn (fun h => ?_) nb (fun a ha => ?_) (fun j e2 o hj q a ha => ?_) fun a ha => ?_⟩, ⟨_, r.write (bs := as ++ (cs ++ [])) e hF hp ev (rv.append (.cons rp .nil)) (fun h => ?_) (List.nodup_append.mpr ⟨nd, by simpa using cn, fun a ha b hb z => hc a ha (by rw [z]; simpa using hb)⟩) (fun a ha => ?_) (fun j e2 o hj q a ha => ?_) fun a ha => ?_⟩⟩
  · rcases sub p h with z | z
    · exact np z
    · exact cf i _ _ e p pF z
  · rcases sub a ha with z | z
    · exact ob a z
    · exact .inr (cb a z)
  · rcases sub a ha with z | z
    · exact sep j e2 o hj q a z
    · exact fun hm => cf j e2 o q a hm z
  · rcases sub a ha with z | z
    · exact pv a z
    · exact .inl (cb a z)
  · rcases List.mem_append.mp h with z | z
    · exact np z
    · exact cf i _ _ e p pF (by simpa using z)
  · rcases List.mem_append.mp ha with z | z
    · exact ob a z
    · exact .inr (cb a (by simpa using z))
  · rcases List.mem_append.mp ha with z | z
    · exact sep j e2 o hj q a z
    · exact fun hm => cf j e2 o q a hm (by simpa using z)
  · rcases List.mem_append.mp ha with z | z
    · exact pv a z
    · exact .inl (cb a (by simpa using z))

/-! ### xs[i] = e -/
theorem s_setx {i : Nat} {x e : CE} {n : Str} {pn p pos : Pos} {ix ex0 : Expr} (lo : LenOk T cf) (x0 : XOk T N cf k X sc) (h1 : atN N i n = true) (h2 : isVis sc n = true) (h3 : okName n = true) (hc : compE ex0 = false) (hx : chk T N sx x sc ix = true) (he : chk T N sx e sc ex0 = true) :
    PS X (.Assign [.Subscript (.Name n pn) ix p] ex0 pos) (tS sx (ex cf W (.setx i x e))) := by
  have GX := ((all_ok lo).1 x sc ix X x0 hx).pe
  have GE := ((all_ok lo).1 e sc ex0 X x0 he).pe
  have hpl := chk_ix hx
  refine (ps_asg GE (pg_sub (slot_var x0 h1 h2 h3) GX set_list (fun v => by cases ix <;> first | rfl | (cases x <;> simp [chk] at hx; done))) (by unfold swapsWithSole; exact sw_plain hc) (by cases ex0 <;> rfl) rfl).pvImp fun D σ H ⟨sa, ca, B, st, F, fl, st', r, hm, q⟩ => ?_
  simp only [ex] at hm
  split at hm <;> first | (cases hm; done) | skip
  rename_i d fr s1 hr1
  split at hm <;> first | (cases hm; done) | skip
  rename_i hf
  split at hm <;> first | (cases hm; done) | skip
  rename_i kk frk s2 hr2
  split at hm <;> first | (cases hm; done) | skip
  rename_i xs hs
  split at hm <;> first | (cases hm; done) | skip
  rename_i j hj
  cases hm
  refine read_imp r hr1 fun v H1 cs r1 res => ?_
  obtain ⟨p0, _, _, ev, _⟩ := r.ownList hs
  refine ⟨.ref p0, ev, ?_⟩
  refine read_imp r1 hr2 fun vk H2 bs r2 res2 => ?_
  have f := fr_or (H0 := H) res.rp res.fr hf
  obtain ⟨p1, vs, ev1, hp1, hl, ⟨F', rw1⟩, _⟩ := r2.writeSet (j := j) hs (res.rp.grow res.src res2.g) f.1 (fun a ha => r.kp.dom a (f.2 a ha)) (fun j e o q a ha hm => r.trk q a ha (f.2 a hm))
  rw [ev] at ev1
  cases ev1
  cases res2.rp
  exact ⟨p0, vs, kk, j, rfl, rfl, hp1, by rw [hl]; exact hj, q _ _ _ rw1⟩

/-! ### xs.append(e) -/
theorem s_append {i : Nat} {e : CE} {n m : Str} {pn ap cp pos : Pos} {ex0 : Expr} (lo : LenOk T cf) (x0 : XOk T N cf k X sc) (hmm : m = ("append" : Str)) (h1 : atN N i n = true) (h2 : isVis sc n = true) (h3 : okName n = true) (hline : (ap.endLine == cp.line) = true) (hst : starE ex0 = false) (he : chk T N sx e sc ex0 = true) :
    PS X (.Expr (.Call (.Attribute (.Name n pn) m ap) [ex0] [] cp) pos) (tS sx (ex cf W (.append i e))) := by
  subst hmm
  have GE := ((all_ok lo).1 e sc ex0 X x0 he).pe
  have e1 : ∀ env, starEach [ex0] env = [(false, eval ex0 env)] := fun env => starEach_cons hst
  refine (ps_expr (pe_bm PySem.F.plainAttrs_list PySem.F.slot_list_append PySem.F.type_list_append mt_append (slot_var x0 h1 h2 h3) (pa_cons GE pa_nil (e1 _)) rfl (by rw [e1]; rfl) hline (e1 _) rfl) rfl).pvImp fun D σ H ⟨sa, ca, B, st, F, fl, st', r, hm, q⟩ => ?_
  simp only [ex] at hm
  split at hm <;> first | (cases hm; done) | skip
  rename_i xs hs
  split at hm <;> first | (cases hm; done) | skip
  rename_i d fr s1 hr1
  split at hm <;> first | (cases hm; done) | skip
  rename_i hf
  cases hm
  obtain ⟨hf, hz⟩ := andE hf
  obtain ⟨p0, xs0, _, ev, hp0, _⟩ := r.ownList hs
  refine ⟨.ref p0, ev, .inl ⟨rfl, _, SqL.of hp0⟩, ?_⟩
  refine read_imp r hr1 fun v H1 cs r1 res => ?_
  have f := fr_or (H0 := H) res.rp res.fr hf
  obtain ⟨p1, vs, ev1, hp1, hl, _, ⟨F', rw1⟩⟩ := r1.writeSet (j := 0) hs res.rp f.1 (fun a ha => r.kp.dom a (f.2 a ha)) (fun j e o q a ha hm => r.trk q a ha (f.2 a hm))
  rw [ev] at ev1
  cases ev1
  have hz' : xs.length + 1 ≤ sizeLine := of_decide_eq_true hz
  exact ⟨p0, vs, v, rfl, rfl, hp1, by omega, q _ _ _ rw1⟩

/-! ### a op= b -/
def tIop (o : Op2) : TIp := fun x y H Q => ∃ a b d, x = .int a ∧ y = .int b ∧ iop2 o a b = some d ∧ Q (.int d) H
theorem iop_ok (o : Op2) : PIp X (opA o) (tIop o) := by
  intro pins s σ H x y v u Q I r1 r2 h
  obtain ⟨a, b, d, rfl, rfl, hd, q⟩ := h
  cases o <;> simp only [iop2] at hd <;> first | (cases hd; done) | skip
  · cases hd
    exact iop_add pins s σ H _ _ v u Q I r1 r2 ⟨a, b, rfl, rfl, q⟩
  · cases hd
    exact iop_sub pins s σ H _ _ v u Q I r1 r2 ⟨a, b, rfl, rfl, q⟩
  · split at hd
    · rename_i hc
      cases hd
      simp only [Bool.or_eq_true, decide_eq_true_eq] at hc
      exact iop_mul pins s σ H _ _ v u Q I r1 r2 ⟨a, b, rfl, rfl, hc.imp (fun h => by constructor <;> omega) (fun h => by constructor <;> omega), q⟩
    · cases hd
theorem s_aug {i : Nat} {o : Op2} {e : CE} {n : Str} {pn pos : Pos} {ex0 : Expr} {op : Operator} (lo : LenOk T cf) (x0 : XOk T N cf k X sc) (hfn : ∀ x, X.fn x = true) (h1 : atN N i n = true) (h2 : asnB N sx sc n = true) (ho : opA o = op) (he : chk T N sx e sc ex0 = true) :
    PS X (.AugAssign (.Name n pn) op ex0 pos) (tS sx (ex cf W (.aug i o e))) := by
  subst ho
  have GE := ((all_ok lo).1 e sc ex0 X x0 he).pe
  have ao := (asn_ok x0 hfn).ok n h2
  refine (ps_aug (by rw [x0.nm]; exact x0.nd) (by rw [x0.nm]; exact atN_ok h1) ao.1 GE (iop_ok o) (.inl (hfn n))).pvImp fun D σ H ⟨sa, ca, B, st, F, fl, st', r, hm, q⟩ => ?_
  simp only [ex] at hm
  split at hm <;> first | (cases hm; done) | skip
  rename_i a oa hs
  split at hm <;> first | (cases hm; done) | skip
  rename_i b fb s1 hr1
  split at hm <;> first | (cases hm; done) | skip
  rename_i d hd
  cases hm
  obtain ⟨v, ev, rp⟩ := r.at_ i _ _ hs
  generalize F i = fi at rp
  cases rp
  refine ⟨.int a, ev, read_imp r hr1 fun vb H1 cs r1 res => ?_⟩
  cases res.rp
  refine ⟨a, b, d, rfl, rfl, hd, q _ _ _ (r1.put (as := []) ⟨.int d, fun _ => ⟨List.nodup_nil, (fun _ h => nomatch h), fun _ _ _ _ _ h => nomatch h⟩, (fun _ _ _ _ _ h => nomatch h), fun _ h => nomatch h⟩ (asn_sx h2 h1))⟩
def tGet (K : PySem.W.Frag) : V → V → Hp → VK → Prop := fun o i H Q => ∃ p xs kk x, o = .ref p ∧ i = .int kk ∧ 0 ≤ kk ∧ kk < 2 ^ 63 ∧ SqL K H p xs ∧ xs[kk.toNat]? = some x ∧ Q x H
theorem get_ok : PGet X (tGet X.K) := by
  intro pins s σ H o i ov iv Q I r1 r2 h
  obtain ⟨p, xs, kk, x, rfl, rfl, h0, h1, hq, hx, q⟩ := h
  cases r1
  obtain ⟨t, rfl⟩ := r2
  obtain ⟨its, rv, pl, hz⟩ := I.list hq
  obtain ⟨u, hu, ru⟩ := rv.get hx
  exact PyProof.Rows.getItem_listL pl.isList h0 h1 hu ⟨x, H, I, ru, q⟩
theorem s_augx {i : Nat} {x e : CE} {o : Op2} {n : Str} {pn p pos : Pos} {ix ex0 : Expr} {op : Operator} (lo : LenOk T cf) (x0 : XOk T N cf k X sc) (h1 : atN N i n = true) (h2 : isVis sc n = true) (h3 : okName n = true) (ho : opA o = op) (hx : chk T N sx x sc ix = true) (he : chk T N sx e sc ex0 = true) :
    PS X (.AugAssign (.Subscript (.Name n pn) ix p) op ex0 pos) (tS sx (ex cf W (.augx i x o e))) := by
  subst ho
  have GX := ((all_ok lo).1 x sc ix X x0 hx).pe
  have GE := ((all_ok lo).1 e sc ex0 X x0 he).pe
  refine (ps_augS (slot_var x0 h1 h2 h3) GX get_ok GE (iop_ok o) set_list (chk_ix hx).2).pvImp fun D σ H ⟨sa, ca, B, st, F, fl, st', r, hm, q⟩ => ?_
  simp only [ex] at hm
  split at hm <;> first | (cases hm; done) | skip
  rename_i kk frk s1 hr1
  split at hm <;> first | (cases hm; done) | skip
  rename_i xs hs
  split at hm <;> first | (cases hm; done) | skip
  rename_i j hj
  split at hm <;> first | (cases hm; done) | skip
  rename_i hk
  split at hm <;> first | (cases hm; done) | skip
  rename_i a hja
  split at hm <;> first | (cases hm; done) | skip
  rename_i b frb s2 hr2
  split at hm <;> first | (cases hm; done) | skip
  rename_i d hd
  cases hm
  obtain ⟨p0, _, _, ev, _⟩ := r.ownList hs
  refine ⟨.ref p0, ev, ?_⟩
  refine read_imp r hr1 fun vk H1 bs r1 res => ?_
  cases res.rp
  obtain ⟨p1, xs1, as1, ev1, hp1, hF1, rv1, _⟩ := r1.ownList hs
  rw [ev] at ev1
  cases ev1
  obtain ⟨w, cs, hw, rw', _⟩ := rv1.get hja
  cases rw'
  have hjn := ixN_seq hj
  obtain ⟨k0, k1⟩ := andE hk
  have k0 : 0 ≤ kk := of_decide_eq_true k0
  have k1 : kk < 2 ^ 62 := of_decide_eq_true k1
  have hkj : kk.toNat = j := by
    have := hjn.1
    rw [seqIndex_of (by omega) hjn.2.2.2] at this
    exact Option.some.inj this
  refine ⟨p0, xs1, kk, .int a, rfl, rfl, k0, by omega, SqL.of hp1, by rw [hkj]; exact hw, ?_⟩
  refine read_imp r1 hr2 fun vb H2 bs2 r2 res2 => ?_
  cases res2.rp
  refine ⟨a, b, d, rfl, rfl, hd, ?_⟩
  obtain ⟨p2, vs, ev2, hp2, hl, ⟨F', rw2⟩, _⟩ := r2.writeSet (j := j) hs (.int d) List.nodup_nil (fun _ h => nomatch h) (fun _ _ _ _ _ _ h => nomatch h)
  rw [ev] at ev2
  cases ev2
  exact ⟨p0, vs, kk, j, rfl, rfl, hp2, by rw [hl]; exact hj, q _ _ _ rw2⟩

/-! ### the source is written -/
theorem Rel.srcPut {sa ca : Addr} {B : Base} {st : S} {σ : L2.St} {F : Nat → List Addr} {H H' : Hp} {s' : Src} (r : Rel sx sa ca B st σ F H) (keep : ∀ a, a ≠ sa → a ≠ ca → H' a = H a) (x : SrcAt sa ca s' H') : Rel sx sa ca B ⟨st.env, s'⟩ σ F H' :=
  r.grow ⟨fun a o h1 h2 e => by rw [keep a h1 h2]; exact e, fun a e => by
    by_cases h1 : a = sa
    · subst h1; rw [x.1] at e; cases e
    · by_cases h2 : a = ca
      · subst h2; rw [x.2] at e; cases e
      · rw [keep a h1 h2] at e; exact e, fun a xs e => by
    rw [keep a (fun z => by rw [z, r.src.1] at e; cases e) (fun z => by rw [z, r.src.2] at e; cases e)]; exact e⟩ x
theorem s_sSet {f : SF} {e : CE} {n key : Str} {p p2 p3 pos : Pos} {kk : Nat} {ex0 : Expr} (lo : LenOk T cf) (x0 : XOk T N cf k X sc) (hk : key = kF f) (h : srcArg N sx sc (.Name n p) = true) (hc : compE ex0 = false) (he : chk T N sx e sc ex0 = true) :
    PS X (.Assign [.Subscript (.Name n p) (.Constant (.str key) kk p2) p3] ex0 pos) (tS sx (ex cf W (.sSet f e))) := by
  subst hk
  obtain ⟨i, rfl, hv⟩ := srcArg_ok x0 h
  have GE := ((all_ok lo).1 e sc ex0 X x0 he).pe
  refine (ps_dput (by have := x0.hu; omega) hv pe_str GE (sw_plain hc)).pvImp fun D σ H ⟨sa, ca, B, st, F, fl, st', r, hm, q⟩ => ?_
  simp only [ex] at hm
  split at hm <;> first | (cases hm; done) | skip
  rename_i i0 fr s1 hr
  cases hm
  refine read_imp r hr fun v H1 as r1 res => ?_
  cases res.rp
  refine ⟨.ref sa, r1.sx i rfl, sa, _, rfl, DPut.k (k := .inr (kF f)) r1.src.1 (by rw [sizeLine_eq]; simp), ?_⟩
  refine q _ _ _ (r1.srcPut (fun a h1 h2 => upd_ne h1) ⟨?_, by rw [upd_ne (Ne.symm r1.src.ne)]; cases f <;> exact r1.src.2⟩)
  rw [upd_same]
  cases f <;> rfl
theorem s_sPop {n key n2 key2 m : Str} {p p1 p2 p3 p4 p5 ap cp pos : Pos} {kk kk2 : Nat} (x0 : XOk T N cf k X sc) (hk : key = "left") (h : srcArg N sx sc (.Name n p) = true) (hk2 : key2 = "cells") (h2 : srcArg N sx sc (.Name n2 p2) = true) (hm0 : m = "pop") (hl : (ap.endLine == cp.line) = true) :
    PS X (.Assign [.Subscript (.Name n p) (.Constant (.str key) kk p1) p3] (.Call (.Attribute (.Subscript (.Name n2 p2) (.Constant (.str key2) kk2 p4) p5) m ap) [] [] cp) pos) (tS sx (ex cf W .sPop)) := by
  subst hk hk2 hm0
  obtain ⟨i, rfl, hv⟩ := srcArg_ok x0 h
  obtain ⟨i2, e2, hv2⟩ := srcArg_ok x0 h2
  cases e2
  refine (ps_dput (by have := x0.hu; omega) hv pe_str (pe_bm0 PySem.F.plainAttrs_list PySem.F.slot_list_pop PySem.F.type_list_pop mt_pop (pe_dget (by have := x0.hu; omega) hv2 pe_str (fun _ _ => rfl)) rfl hl) rfl).pvImp fun D σ H ⟨sa, ca, B, st, F, fl, st', r, hm, q⟩ => ?_
  simp only [ex] at hm
  split at hm <;> first | (cases hm; done) | skip
  rename_i i0 hl0
  cases hm
  have hx : (st.src.cells.map V.int)[(st.src.cells.map V.int).length - 1]? = some (.int i0) := by
    rw [List.length_map, List.getElem?_map]
    rw [List.getLast?_eq_getElem?] at hl0
    rw [hl0]; rfl
  refine ⟨.ref sa, r.sx i rfl, sa, _, rfl, src_cells r.src, .inl ⟨rfl, _, SqL.of r.src.2⟩, ca, _, _, rfl, rfl, r.src.2, hx, ?_⟩
  have ne := r.src.ne
  refine ⟨.ref sa, r.sx i rfl, sa, _, rfl, DPut.k (k := .inr ("left" : Str)) (by rw [upd_ne ne]; exact r.src.1) (by rw [sizeLine_eq]; simp), ?_⟩
  refine q _ _ _ (r.srcPut (fun a h1 h2 => by rw [upd_ne h1, upd_ne h2]) ⟨by rw [upd_same]; rfl, ?_⟩)
  rw [upd_ne (Ne.symm ne), upd_same, List.map_dropLast]
end
end PV

/-! PV, part Q2: targets with subscripts; pop; a list drawn out. -/
namespace PV
open PySem PySem.Spec PyProof.Rows L2
section
variable {T : List FI} {N : List Str} {sx : Option Nat} {cf : CallF} {k : Nat} {X : Cx} {sc : Scope} {W : Nat}
variable {sa ca : Addr} {B : Base} {st st1 : S} {σ σ' : L2.St} {F F1 : Nat → List Addr} {H H' H1 : Hp} {s' : Src}

/-- a written item: what the slot's list then has -/
theorem Rel.writeAt {i j : Nat} {ds : List D} {d : D} {v : V} {cs : List Addr} (r : Rel sx sa ca B st σ F H) (e : st.env[i]? = some (some (.list ds, true)))
    (rp : Rp ca H v d cs) (cn : cs.Nodup) (cb : ∀ a ∈ cs, B.H0 a = none) (cf : ∀ j e o, st.env[j]? = some (some (e, o)) → ∀ a ∈ F j, a ∉ cs) :
    ∃ p xs bs, σ[i]? = some (some (.ref p)) ∧ H p = some (.lst xs) ∧ xs.length = ds.length ∧ p ∈ F i ∧ (∀ a ∈ p :: bs, a ∈ F i ∨ a ∈ cs) ∧
      Rel sx sa ca B ⟨st.env.set i (some (.list (ds.set j d), true)), st.src⟩ σ (setF F i (p :: bs)) (upd H p (.lst (xs.set j v))) := by
  obtain ⟨p, xs, as, ev, hp, hF, rv, np, nd, ob, sep, pv⟩ := r.ownList e
  obtain ⟨bs, rn, sub, hn⟩ := rv.set (j := j) rp
  have pF : p ∈ F i := by rw [hF]; exact List.mem_cons_self
  have hc : ∀ a ∈ as, a ∉ cs := fun a ha hm => cf i _ _ e a (by rw [hF]; exact List.mem_cons_of_mem _ ha) hm
  have nb := hn nd cn hc
  refine ⟨p, xs, bs, ev, hp, rv.len, pF, fun a ha => ?_, r.write e hF hp ev rn (fun h => ?_) nb (fun a ha => ?_) (fun j e2 o hj q a ha => ?_) fun a ha => ?_⟩
  · rcases List.mem_cons.mp ha with rfl | ha
    · exact .inl pF
    · rcases sub a ha with z | z
      · exact .inl (by rw [hF]; exact List.mem_cons_of_mem _ z)
      · exact .inr z
  · rcases sub p h with z | z
    · exact np z
    · exact cf i _ _ e p pF z
  · rcases sub a ha with z | z
    · exact ob a z
    · exact .inr (cb a z)
  · rcases sub a ha with z | z
    · exact sep j e2 o hj q a z
    · exact fun hm => cf j e2 o q a hm z
  · rcases sub a ha with z | z
    · exact pv a z
    · exact .inl (cb a z)

/-! ### xs.extend(ys) -/
theorem s_extend {i : Nat} {e : CE} {n m : Str} {pn ap cp pos : Pos} {ex0 : Expr} (lo : LenOk T cf) (x0 : XOk T N cf k X sc) (hmm : m = ("extend" : Str)) (h1 : atN N i n = true) (h2 : isVis sc n = true) (h3 : okName n = true) (hline : (ap.endLine == cp.line) = true) (hst : starE ex0 = false) (he : chk T N sx e sc ex0 = true) :
    PS X (.Expr (.Call (.Attribute (.Name n pn) m ap) [ex0] [] cp) pos) (tS sx (ex cf W (.extend i e))) := by
  subst hmm
  have GE := ((all_ok lo).1 e sc ex0 X x0 he).pe
  have e1 : ∀ env, starEach [ex0] env = [(false, eval ex0 env)] := fun env => starEach_cons hst
  refine (ps_expr (pe_bm PySem.F.plainAttrs_list PySem.F.slot_list_extend PySem.F.type_list_extend mt_extend (slot_var x0 h1 h2 h3) (pa_cons GE pa_nil (e1 _)) rfl (by rw [e1]; rfl) hline (e1 _) rfl) rfl).pvImp fun D σ H ⟨sa, ca, B, st, F, fl, st', r, hm, q⟩ => ?_
  simp only [ex] at hm
  split at hm <;> first | (cases hm; done) | skip
  rename_i xs hs
  split at hm <;> first | (cases hm; done) | skip
  rename_i ys fr s1 hr1
  split at hm <;> first | (cases hm; done) | skip
  rename_i hf
  cases hm
  obtain ⟨hf, hz⟩ := andE hf
  obtain ⟨p0, xs0, _, ev, hp0, _⟩ := r.ownList hs
  refine ⟨.ref p0, ev, .inl ⟨rfl, _, SqL.of hp0⟩, ?_⟩
  refine read_imp r hr1 fun v H1 cs r1 res => ?_
  obtain ⟨p, vs, as, ev1, hp, hF, rv, np, nd, ob, sep, pv⟩ := r1.ownList hs
  rw [ev] at ev1
  cases ev1
  have hz' : xs.length + ys.length ≤ sizeLine := of_decide_eq_true hz
  have fr' := res.fr
  have rpv := res.rp
  generalize hcs : cs = cs0 at rpv fr'
  cases rpv with
  | @lst b ws _ bs e2 nb rw0 =>
    -- the items of what is put behind: all new, or without lists
    have f : bs.Nodup ∧ ∀ a ∈ bs, H a = none := by
      rcases Bool.or_eq_true _ _ |>.mp hf with z | z
      · obtain ⟨g1, g2⟩ := fr' z
        exact ⟨(List.nodup_cons.mp g1).2, fun a ha => g2 a (List.mem_cons_of_mem _ ha)⟩
      · rw [rw0.noL_nil z]
        exact ⟨List.nodup_nil, fun _ h => nomatch h⟩
    have nbs : ∀ a ∈ bs, ∀ j e o, st.env[j]? = some (some (e, o)) → a ∉ F j := fun a ha j e o q hm => r.trk q a hm (f.2 a ha)
    have rn : RpAll ca H1 (vs ++ ws) (xs ++ ys) (as ++ bs) := rv.append rw0
    have pF : p0 ∈ F i := by rw [hF]; exact List.mem_cons_self
    have W := r1.write hs hF hp ev rn (fun h => ?_) (List.nodup_append.mpr ⟨nd, f.1, fun a ha c hc z => nbs c hc i _ _ hs (by rw [hF, ← z]; exact List.mem_cons_of_mem _ ha)⟩) (fun a ha => ?_) (fun j e2 o hj q a ha => ?_) fun a ha => ?_
    · refine ⟨p0, b, vs, ws, rfl, rfl, hp, e2, ?_, q _ _ _ W⟩
      have := rv.len
      have := rw0.len
      omega
    · rcases List.mem_append.mp h with z | z
      · exact np z
      · exact nbs _ z i _ _ hs pF
    · rcases List.mem_append.mp ha with z | z
      · exact ob a z
      · exact .inr (r.kp.dom a (f.2 a z))
    · rcases List.mem_append.mp ha with z | z
      · exact sep j e2 o hj q a z
      · exact nbs a z j e2 o q
    · rcases List.mem_append.mp ha with z | z
      · exact pv a z
      · exact .inl (r.kp.dom a (f.2 a z))

/-! ### a, xs[i] = x, y -/
def tX (sx : Option Nat) (cf : CallF) (ts : List (Nat × CO)) : TGs := fun vs σ H Q => ∃ sa ca B st F ds as st', Rel sx sa ca B st σ F H ∧ RpAll ca H vs ds as ∧ as.Nodup ∧ (∀ a ∈ as, B.H0 a = none) ∧ (∀ j e o, st.env[j]? = some (some (e, o)) → ∀ a ∈ F j, a ∉ as) ∧
  putX cf ts ds st = some st' ∧ ∀ σ' F' H', Rel sx sa ca B st' σ' F' H' → Q σ' H'
theorem pgs_x (lo : LenOk T cf) (x0 : XOk T N cf k X sc) (hfn : ∀ x, X.fn x = true) : ∀ (ts : List (Nat × CO)) (es : List Expr), chkX T N sx ts sc es = true → PGs X es (tX sx cf ts) ∧ (assignEach es X.env).length = es.length ∧ (assignEach es X.env).findIdx? (·.1) = none
  | [], [], _ => ⟨pgs_nil.pvImp fun vs σ H Q ⟨sa, ca, B, st, F, ds, as, st', r, rp, nd, nw, sep, hp, q⟩ => by
      cases ds with
      | nil =>
        simp only [putX, Option.some.injEq] at hp
        subst hp
        cases rp
        exact ⟨rfl, q _ _ _ r⟩
      | cons d ds => simp [putX] at hp, rfl, rfl⟩
  | [], _ :: _, h => by simp [chkX] at h
  | (i, .no) :: r, [], h => by simp [chkX] at h
  | (i, .so e) :: r, [], h => by simp [chkX] at h
  | (i, .no) :: r, e :: es, h => by
    cases e <;> first | (simp [chkX] at h; done) | skip
    simp only [chkX] at h
    rename_i x p
    obtain ⟨h1, h2⟩ := andE h
    obtain ⟨h3, h4⟩ := andE h1
    obtain ⟨g1, g2, g3⟩ := pgs_x lo x0 hfn r es h2
    have ao := (asn_ok x0 hfn).ok x h4
    refine ⟨(pgs_cons (pg_name (by rw [x0.nm]; exact x0.nd) (by rw [x0.nm]; exact atN_ok h3) ao.1 (.inl (hfn x))) g1 rfl).pvImp fun vs σ H Q ⟨sa, ca, B, st, F, ds, as, st', rr, rp, nd, nw, sep, hp, q⟩ => ?_, by rw [assignEach_cons rfl]; simp [g2], by rw [assignEach_cons rfl, List.findIdx?_cons]; simp [g3]⟩
    cases ds with
    | nil => simp [putX] at hp
    | cons d ds =>
      cases rp with
      | @cons v vs _ _ as bs r1 r2 =>
        simp only [putX] at hp
        obtain ⟨n1, n2, n3⟩ := List.nodup_append.mp nd
        have x' : Sto sa ca B st.env F H v d true as := ⟨r1, fun _ => ⟨n1, fun a ha => .inr (nw a (List.mem_append_left _ ha)), fun j e o q a ha hm => sep j e o q a hm (List.mem_append_left _ ha)⟩, fun j e q a ha hm => sep j e true q a ha (List.mem_append_left _ hm), fun a ha => .inl (nw a (List.mem_append_left _ ha))⟩
        refine ⟨v, vs, rfl, sa, ca, B, _, setF F i as, ds, bs, st', rr.put x' (asn_sx h4 h3), r2, n2, fun a ha => nw a (List.mem_append_right _ ha), fun j e o qq a ha hmem => ?_, hp, q⟩
        rcases set_some qq with ⟨zj, _, _⟩ | ⟨hj, qq⟩
        · rw [zj, setF_same] at ha; exact n3 a ha a hmem rfl
        · rw [setF_ne hj] at ha; exact sep j e o qq a ha (List.mem_append_right _ hmem)
  | (i, .so x) :: r, e :: es, h => by
    cases e <;> first | (simp [chkX] at h; done) | skip
    rename_i o ix p
    cases o <;> first | (simp [chkX] at h; done) | skip
    simp only [chkX] at h
    rename_i n pn
    obtain ⟨h, h5⟩ := andE h
    obtain ⟨h, h4⟩ := andE h
    obtain ⟨h, h3⟩ := andE h
    obtain ⟨h1, h2⟩ := andE h
    obtain ⟨g1, g2, g3⟩ := pgs_x lo x0 hfn r es h5
    have GX := ((all_ok lo).1 x sc ix X x0 h4).pe
    refine ⟨(pgs_cons (pg_sub (slot_var x0 h1 h2 h3) GX set_list (fun v => by cases ix <;> first | rfl | (cases x <;> simp [chk] at h4; done))) g1 rfl).pvImp fun vs σ H Q ⟨sa, ca, B, st, F, ds, as, st', rr, rp, nd, nw, sep, hp, q⟩ => ?_, by rw [assignEach_cons rfl]; simp [g2], by rw [assignEach_cons rfl, List.findIdx?_cons]; simp [g3]⟩
    cases ds with
    | nil => simp [putX] at hp
    | cons d ds =>
      cases rp with
      | @cons v vs _ _ as bs r1 r2 =>
        simp only [putX] at hp
        split at hp <;> first | (cases hp; done) | skip
        rename_i kk frk s2 hr
        split at hp <;> first | (cases hp; done) | skip
        rename_i xs hs
        split at hp <;> first | (cases hp; done) | skip
        rename_i j hj
        obtain ⟨n1, n2, n3⟩ := List.nodup_append.mp nd
        obtain ⟨p0, _, _, ev, _⟩ := rr.ownList hs
        refine ⟨v, vs, rfl, .ref p0, ev, read_imp rr hr fun vk H2 cs r3 res => ?_⟩
        cases res.rp
        have x1 := rr.src
        obtain ⟨p1, ws, cs2, ev1, hp1, hl, pF, sub, rw1⟩ := r3.writeAt (j := j) hs (r1.grow x1 res.g) n1 (fun a ha => nw a (List.mem_append_left _ ha)) (fun j e o q a ha hm => sep j e o q a ha (List.mem_append_left _ hm))
        rw [ev] at ev1
        cases ev1
        refine ⟨p0, ws, kk, j, rfl, rfl, hp1, by rw [hl]; exact hj, sa, ca, B, _, _, ds, bs, st', rw1, ?_, n2, fun a ha => nw a (List.mem_append_right _ ha), fun j2 e o qq a ha hmem => ?_, hp, q⟩
        · refine (r2.grow x1 res.g).mono (fun a ys q => by rw [upd_ne (fun z => by rw [z, hp1] at q; cases q)]; exact q) fun a ha => upd_ne fun z => ?_
          exact sep i _ _ hs p0 pF (List.mem_append_right _ (z ▸ ha))
        · rcases set_some qq with ⟨zj, _, _⟩ | ⟨hj2, qq⟩
          · rw [zj, setF_same] at ha
            rcases sub a ha with z | z
            · exact sep i _ _ hs a z (List.mem_append_right _ hmem)
            · exact n3 a z a hmem rfl
          · rw [setF_ne hj2] at ha; exact sep j2 e o qq a ha (List.mem_append_right _ hmem)
theorem putX_len : ∀ (ts : List (Nat × CO)) (ds : List D) (st st' : S), putX cf ts ds st = some st' → ts.length = ds.length
  | [], [], _, _, _ => rfl
  | [], _ :: _, _, _, h => by simp [putX] at h
  | (_, .no) :: _, [], _, _, h => by simp [putX] at h
  | (_, .so _) :: _, [], _, _, h => by simp [putX] at h
  | (i, .no) :: ts, d :: ds, st, st', h => by
    simp only [putX] at h
    simp [putX_len ts ds _ _ h]
  | (i, .so x) :: ts, d :: ds, st, st', h => by
    simp only [putX] at h
    split at h <;> first | (cases h; done) | skip
    split at h <;> first | (cases h; done) | skip
    split at h <;> first | (cases h; done) | skip
    simp [putX_len ts ds _ _ h]
theorem chkX_len : ∀ (ts : List (Nat × CO)) (es : List Expr), chkX T N sx ts sc es = true → ts.length = es.length
  | [], [], _ => rfl
  | [], _ :: _, h => by simp [chkX] at h
  | (_, .no) :: _, [], h => by simp [chkX] at h
  | (_, .so _) :: _, [], h => by simp [chkX] at h
  | (i, .no) :: ts, e :: es, h => by
    cases e <;> first | (simp [chkX] at h; done) | skip
    simp only [chkX] at h
    simp [chkX_len ts es (andE h).2]
  | (i, .so x) :: ts, e :: es, h => by
    cases e <;> first | (simp [chkX] at h; done) | skip
    rename_i o ix p
    cases o <;> first | (simp [chkX] at h; done) | skip
    simp only [chkX] at h
    simp [chkX_len ts es (andE h).2]
theorem s_parX {ts : List (Nat × CO)} {es : CEs} {us xs : List Expr} {kt k2 : Nat} {pt p2 pos : Pos} (lo : LenOk T cf) (x0 : XOk T N cf k X sc) (hfn : ∀ x, X.fn x = true) (h1 : chkX T N sx ts sc us = true) (hes : PA X xs (tEs sx (runs cf es))) (hsw : swapB sc us xs = some false) :
    PS X (.Assign [.Tuple us kt pt] (.Tuple xs k2 p2) pos) (tS sx (ex cf W (.parX ts es))) := by
  have sw := swap_eq (kt := kt) (k2 := k2) (pt := pt) (p2 := p2) x0 hsw
  obtain ⟨g1, g2, g3⟩ := pgs_x lo x0 hfn ts us h1
  refine (ps_asg (pe_tup hes) (pg_tup (n := us.length) x0.calm g1 g2 g3) rfl sw rfl).pvImp fun D σ H ⟨sa, ca, B, st, F, fl, st', r, hm, q⟩ => ?_
  simp only [ex] at hm
  split at hm <;> first | (cases hm; done) | skip
  rename_i ds fr s1 hr
  split at hm <;> first | (cases hm; done) | skip
  rename_i hf
  obtain ⟨hf, hz⟩ := andE hf
  subst hf
  obtain ⟨st2, hp, e⟩ := Option.map_eq_some_iff.mp hm
  cases e
  refine ⟨sa, ca, _, _, F, ds, true, s1, r.src, r.env, hr, fun vs H' as res => ?_⟩
  have ld := putX_len ts ds _ _ hp
  have lt := chkX_len ts us h1
  have lv : vs.length = ds.length := res.rp.len
  refine ⟨by rw [lv]; exact of_decide_eq_true hz, fun t ht => ⟨t, vs, rfl, .of upd_same, by omega, ?_⟩⟩
  have f := res.fr rfl
  have g2 : Grow sa ca H' (upd H' t (.tup vs)) := .new ht
  have r1 : Rel sx sa ca B ⟨st.env, s1⟩ σ F (upd H' t (.tup vs)) := r.grow (res.g.trans g2) (res.src.new ht)
  exact ⟨sa, ca, B, _, F, ds, as, st', r1, res.rp.grow res.src g2, f.1, fun a ha => r.kp.dom a (f.2 a ha), fun j e o q a ha hm => r.trk q a ha (f.2 a hm), hp, fun σ' F' H' r2 => q _ _ _ r2⟩
end
end PV

/-! PV, part Q3: pop; a list drawn out. -/
namespace PV
open PySem PySem.Spec PyProof.Rows L2
section
variable {T : List FI} {N : List Str} {sx : Option Nat} {cf : CallF} {k : Nat} {X : Cx} {sc : Scope} {W : Nat}
variable {sa ca : Addr} {B : Base} {st st1 : S} {σ σ' : L2.St} {F F1 : Nat → List Addr} {H H' H1 : Hp} {s' : Src}
theorem noLs_erase : ∀ (ds : List D) (j : Nat), noLs ds = true → noLs (ds.eraseIdx j) = true
  | [], _, _ => by simp [noLs]
  | d :: ds, 0, h => by simp [noLs] at h ⊢; exact h.2
  | d :: ds, j + 1, h => by
    simp [noLs] at h ⊢
    exact ⟨h.1, noLs_erase ds j h.2⟩
theorem noLs_get : ∀ (ds : List D) (j : Nat) (d : D), noLs ds = true → ds[j]? = some d → noL d = true
  | [], _, _, _, e => by simp at e
  | x :: ds, 0, d, h, e => by simp [noLs] at h e; rw [← e]; exact h.1
  | x :: ds, j + 1, d, h, e => by
    simp [noLs] at h
    exact noLs_get ds j d h.2 (by simpa using e)
theorem rp_erase : ∀ (ds : List D) (vs : List V) (as : List Addr) (j : Nat), noLs ds = true → RpAll ca H vs ds as → RpAll ca H (vs.eraseIdx j) (ds.eraseIdx j) []
  | [], _, _, j, _, h => by cases h; simp; exact .nil
  | d :: ds, _, _, 0, hn, h => by
    cases h with
    | cons h1 h2 =>
      simp [noLs] at hn
      have := h2.noL_nil hn.2
      subst this
      simpa using h2
  | d :: ds, _, _, j + 1, hn, h => by
    cases h with
    | @cons v vs _ _ as bs h1 h2 =>
      simp [noLs] at hn
      have e := h1.noL_nil hn.1
      subst e
      exact .cons (as := []) (bs := []) h1 (rp_erase ds vs bs j hn.2 h2)
theorem tg_shape {asn : Str → Bool} {t : CT} {tg : Expr} (h : chkT N asn t tg = true) : (∃ x p, tg = .Name x p) ∨ ∃ es kk p, tg = .Tuple es kk p := by
  cases t with
  | name i =>
    cases tg <;> first | (simp [chkT] at h; done) | skip
    exact .inl ⟨_, _, rfl⟩
  | tup ts =>
    cases tg <;> first | (simp [chkT] at h; done) | skip
    exact .inr ⟨_, _, _, rfl⟩
/-- what is left of a list, and what came out -/
theorem Rel.popD {i j : Nat} {ds : List D} {d : D} (r : Rel sx sa ca B st σ F H) (e : st.env[i]? = some (some (.list ds, true))) (hn : noLs ds = true) (hj : ds[j]? = some d) :
    ∃ p xs y, σ[i]? = some (some (.ref p)) ∧ H p = some (.lst xs) ∧ xs.length = ds.length ∧ xs[j]? = some y ∧ F i = [p] ∧ Rp ca (upd H p (.lst (xs.eraseIdx j))) y d [] ∧
      Rel sx sa ca B ⟨st.env.set i (some (.list (ds.eraseIdx j), true)), st.src⟩ σ (setF F i [p]) (upd H p (.lst (xs.eraseIdx j))) := by
  obtain ⟨p, xs, as, ev, hp, hF, rv, np, nd, ob, sep, pv⟩ := r.ownList e
  have ea := rv.noL_nil hn
  subst ea
  obtain ⟨y, bs, hy, ry, sub⟩ := rv.get hj
  have eb : bs = [] := List.eq_nil_iff_forall_not_mem.mpr fun a ha => by simpa using sub a ha
  subst eb
  refine ⟨p, xs, y, ev, hp, rv.len, hy, hF, ?_, r.write e hF hp ev (rp_erase _ _ _ j hn rv) (fun h => nomatch h) List.nodup_nil (fun _ h => nomatch h) (fun _ _ _ _ _ _ h => nomatch h) (fun _ h => nomatch h)⟩
  exact ry.mono (fun a ys q => by rw [upd_ne (fun z => by rw [z, hp] at q; cases q)]; exact q) fun _ h => nomatch h
theorem erase_last {α : Type} : ∀ (l : List α), l.eraseIdx (l.length - 1) = l.dropLast
  | [] => rfl
  | [a] => rfl
  | a :: b :: l => by
    have := erase_last (b :: l)
    simp at this ⊢
    exact this
theorem s_popT {t : CT} {i : Nat} {o : CO} {tg : Expr} {n m : Str} {pn ap cp pos : Pos} {args : List Expr} (lo : LenOk T cf) (x0 : XOk T N cf k X sc) (hfn : ∀ x, X.fn x = true) (ht : chkT N (asnB N sx sc) t tg = true) (h1 : atN N i n = true) (h2 : isVis sc n = true) (h3 : okName n = true) (hm0 : m = "pop") (hl : (ap.endLine == cp.line) = true) (ha : chkArg T N sx o sc args = true) :
    PS X (.Assign [tg] (.Call (.Attribute (.Name n pn) m ap) args [] cp) pos) (tS sx (ex cf W (.popT t i o))) := by
  subst hm0
  have pgt := pg_ct x0.nm x0.nd x0.calm (asn_ok x0 hfn) t tg ht
  have A1 : ∀ e : Expr, (∀ x y z w, e ≠ .ListComp x y z w) → True := fun _ _ => trivial
  have fin : ∀ {st st' : S} {sa ca : Addr} {B : Base} {F : Nat → List Addr} {σ : L2.St} {H : Hp} {D0 : Ends} {fl : Fl} {xs : List D} {d : D} {env : EnvS} {j : Nat}, Rel sx sa ca B st σ F H → st.env[i]? = some (some (.list xs, true)) → noLs xs = true → xs[j]? = some d → putT t d (st.env.set i (some (.list (xs.eraseIdx j), true))) = some env → Post sx sa ca B D0 .nx ⟨env, st.src⟩ →
      ∃ p vs y, σ[i]? = some (some (.ref p)) ∧ H p = some (.lst vs) ∧ vs.length = xs.length ∧ vs[j]? = some y ∧ tG t y σ (upd H p (.lst (vs.eraseIdx j))) D0.nx := by
    intro st st' sa ca B F σ H D0 fl xs d env j r hs hn hj hp q
    obtain ⟨p, vs, y, ev, hH, hlen, hy, hF, ry, r1⟩ := r.popD hs hn hj
    refine ⟨p, vs, y, ev, hH, hlen, hy, ca, d, [], ry, putT_shape _ _ _ _ hp, fun σ2 hV => ?_⟩
    obtain ⟨F2, r2, _⟩ := putT_rel t y d [] σ σ2 _ env _ hV hp r1 (fun _ _ _ _ _ h => nomatch h) (fun _ h => nomatch h) (slots_sx t tg ht)
    exact q _ _ _ r2
  cases o with
  | no =>
    cases args with
    | cons _ _ => simp [chkArg] at ha
    | nil =>
      have pe := pe_bm0 (X := X) (cpos := cp) (apos := ap) PySem.F.plainAttrs_list PySem.F.slot_list_pop PySem.F.type_list_pop mt_pop (slot_var (p := pn) x0 h1 h2 h3) rfl hl
      have g : PS X (.Assign [tg] (.Call (.Attribute (.Name n pn) "pop" ap) [] [] cp) pos) (tAsg (tBM0 X.K "list" rPop (tVar i)) (tG t)) := by
        rcases tg_shape ht with ⟨x, p, rfl⟩ | ⟨es, kk, p, rfl⟩
        · exact ps_asg pe pgt rfl rfl rfl
        · exact ps_asg pe pgt rfl rfl rfl
      refine g.pvImp fun D σ H ⟨sa, ca, B, st, F, fl, st', r, hm, q⟩ => ?_
      simp only [ex] at hm
      split at hm <;> first | (cases hm; done) | skip
      rename_i xs hs
      split at hm <;> first | (cases hm; done) | skip
      rename_i hn
      split at hm <;> first | (cases hm; done) | skip
      rename_i d hd
      obtain ⟨env, hp, e⟩ := Option.map_eq_some_iff.mp hm
      cases e
      rw [List.getLast?_eq_getElem?] at hd
      rw [← erase_last] at hp
      obtain ⟨p, vs, y, ev, hH, hlen, hy, g⟩ := fin (fl := .nx) (st' := st) r hs hn hd hp q
      rw [← hlen] at hy g
      refine ⟨.ref p, ev, .inl ⟨rfl, _, SqL.of hH⟩, p, vs, y, rfl, rfl, hH, hy, ?_⟩
      rw [erase_last] at g
      exact g
  | so e =>
    match args, ha with
    | [x], ha =>
      simp only [chkArg] at ha
      obtain ⟨h4, h5⟩ := andE ha
      have GE := ((all_ok lo).1 e sc x X x0 h4).pe
      have e1 : ∀ env, starEach [x] env = [(false, eval x env)] := fun env => starEach_cons (notE h5)
      have pe := pe_bm (X := X) (cpos := cp) (apos := ap) PySem.F.plainAttrs_list PySem.F.slot_list_pop PySem.F.type_list_pop mt_popAt (slot_var (p := pn) x0 h1 h2 h3) (pa_cons GE pa_nil (e1 _)) rfl (by rw [e1]; rfl) hl (e1 _) rfl
      have g : PS X (.Assign [tg] (.Call (.Attribute (.Name n pn) "pop" ap) [x] [] cp) pos) (tAsg (tBM X.K "list" rPopAt (tVar i) (tCons (tE sx (run cf e)) tNil)) (tG t)) := by
        rcases tg_shape ht with ⟨x, p, rfl⟩ | ⟨es, kk, p, rfl⟩
        · exact ps_asg pe pgt rfl rfl rfl
        · exact ps_asg pe pgt rfl rfl rfl
      refine g.pvImp fun D σ H ⟨sa, ca, B, st, F, fl, st', r, hm, q⟩ => ?_
      simp only [ex] at hm
      split at hm <;> first | (cases hm; done) | skip
      rename_i xs hs
      split at hm <;> first | (cases hm; done) | skip
      rename_i hn
      split at hm <;> first | (cases hm; done) | skip
      rename_i kk fk s1 hr
      split at hm <;> first | (cases hm; done) | skip
      rename_i hk
      split at hm <;> first | (cases hm; done) | skip
      rename_i j hj
      split at hm <;> first | (cases hm; done) | skip
      rename_i d hd
      obtain ⟨env, hp, e⟩ := Option.map_eq_some_iff.mp hm
      cases e
      obtain ⟨p0, xs0, _, ev0, hp0, _⟩ := r.ownList hs
      refine ⟨.ref p0, ev0, .inl ⟨rfl, _, SqL.of hp0⟩, ?_⟩
      refine read_imp r hr fun v H1 cs r1 res => ?_
      cases res.rp
      obtain ⟨p, vs, y, ev, hH, hlen, hy, g⟩ := fin (fl := .nx) (st' := st) r1 hs hn hd hp q
      rw [ev0] at ev
      cases ev
      obtain ⟨b1, b2, b3, b4⟩ := okRg_ok hk
      exact ⟨p0, vs, kk, j, y, rfl, rfl, hH, by omega, by omega, by rw [hlen]; exact (ixN_seq hj).1, hy, g⟩
    | [], ha => simp [chkArg] at ha
    | _ :: _ :: _, ha => simp [chkArg] at ha

/-! ### return [xs.pop(f(source, len(xs))) for lap in range(len(xs))] -/
theorem chkT_name {asn : Str → Bool} {l : Nat} {tg : Expr} (h : chkT N asn (.name l) tg = true) : ∃ x p, tg = .Name x p := by
  cases tg <;> first | (simp [chkT] at h; done) | skip
  exact ⟨_, _, rfl⟩
theorem s_mix {own : List (Str × Nat)} {l i f : Nat} {n m : Str} {pn ap cp pp pos : Pos} {x t it : Expr} {scope : Scope} (lo : LenOk T cf) (x0 : XOk T N cf k X sc)
    (g1 : blkC N sc scope own = true) (g2 : ownLoc scope own = true) (g3 : ownSx sx own = true) (g4 : chkT N (fun x => (own.map (·.1)).contains x) (.name l) t = true) (g5 : chkI T N sx (.rg1 (.bi .len (.var i) .nil)) sc t it = true)
    (h1 : atN N i n = true) (h2 : isVis (relS scope sc) n = true) (h3 : okName n = true) (hm0 : m = "pop") (hl : (ap.endLine == cp.line) = true) (hst : starE x = false)
    (hx : chk T N sx (.call f (.cons (.bi .len (.var i) .nil) .nil)) (relS scope sc) x = true) (hi : (own.map (·.2)).contains i = false) :
    PS X (.Return (some (.ListComp (.Call (.Attribute (.Name n pn) m ap) [x] [] cp) [⟨t, it, [], 0⟩] scope pp)) pos) (tS sx (ex cf W (.retMix own l i f))) := by
  subst hm0
  have ok : BlkOk N sc scope own := blkOk_by g1
  obtain ⟨A1, A2, A3, _, _⟩ := all_ok (T := T) (N := N) (sx := sx) (cf := cf) (k := k) lo
  obtain ⟨pi, ps0⟩ := A3 _ sc t it X x0 g5
  have e1 : ∀ env, starEach [x] env = [(false, eval x env)] := fun env => starEach_cons hst
  have hni : i ∉ own.map (·.2) := fun z => by
    have : (own.map (·.2)).contains i = true := by simpa using z
    rw [hi] at this; cases this
  refine (ps_ret (pe_lc (own := own) (te := tBM X.K "list" rPopAt (tVar i) (tCons (tE sx (run cf (.call f (.cons (.bi .len (.var i) .nil) .nil)))) tNil)) x0.calm (by rw [x0.nm]; exact x0.nd) pi (by rw [x0.nm, x0.scp]; exact ok) (fun s H C cl fp => pg_ct (x0.blk ok.kind s H C cl fp).nm x0.nd x0.calm (blk_asn x0 g2 s H C cl fp) (.name l) t g4) (fun s H C cl fp => pts_nil)
    (fun s H C cl fp => pe_bm PySem.F.plainAttrs_list PySem.F.slot_list_pop PySem.F.type_list_pop mt_popAt (slot_var (x0.blk ok.kind s H C cl fp) h1 h2 h3) (pa_cons (A1 _ _ _ _ (x0.blk ok.kind s H C cl fp) hx).pe pa_nil (e1 _)) rfl (by rw [e1]; rfl) hl (e1 _) rfl) ps0)).pvImp fun D0 σ H ⟨sa, ca, B, st, F, fl, st', r, hm, q⟩ => ?_
  simp only [ex] at hm
  split at hm <;> first | (cases hm; done) | skip
  rename_i xs hs
  split at hm <;> first | (cases hm; done) | skip
  rename_i hn
  split at hm <;> first | (cases hm; done) | skip
  rename_i ds s1 hgo
  cases hm
  obtain ⟨hn, hlen⟩ := andE hn
  have hlen : xs.length ≤ 10000000 := of_decide_eq_true hlen
  have hsz : (10000000 : Nat) ≤ sizeLine := by rw [sizeLine_eq]; decide
  have hv : (vals st.env)[i]? = some (some (.list xs)) := vals_get.mpr ⟨_, hs⟩
  have hI : runI cf (.rg1 (.bi .len (.var i) .nil)) (vals st.env) st.src = some (rangeD 0 xs.length, true, st.src) := by
    simp only [runI, run, runs, hv, bi1, Option.map_some]
    rw [if_pos]
    · simp
    · unfold okRg
      simp only [Bool.and_eq_true, decide_eq_true_eq]
      omega
  refine ⟨sa, ca, _, _, F, _, _, _, r.src, r.env, hI, fun J H1 as rI => ?_⟩
  intro Da hD
  have r1 : Rel sx sa ca B ⟨st.env, st.src⟩ σ F H1 := r.grow rI.g rI.src
  obtain ⟨p, vs0, as0, ev, hp, hF, rv0, np0, _⟩ := r1.ownList hs
  have ea := rv0.noL_nil hn
  subst ea
  have nD : Da ≠ sa ∧ Da ≠ ca := ⟨fun z => (by rw [z, rI.src.1] at hD; cases hD), fun z => (by rw [z, rI.src.2] at hD; cases hD)⟩
  have nDp : Da ≠ p := fun z => by rw [z, hp] at hD; cases hD
  have hBD : B.H0 Da = none := r1.kp.dom _ hD
  have pas : p ∉ as := fun ha => by
    have := rI.fr rfl p ha
    exact r.trk hs p (by rw [hF]; exact List.mem_cons_self) this
  have lr : (rangeD 0 xs.length).length = xs.length := by simp [rangeD]
  rw [show (10000000 : Nat) = 10000000 from rfl] at hlen
  have wk := rI.walk
  rw [lr] at wk
  refine lc_it wk (fun j H' => ∃ xj aV dj sj rest Fj, Rel sx sa ca B ⟨st.env.set i (some (.list xj, true)), sj⟩ σ Fj H' ∧ mixGo cf f (xs.length - j) xj sj = some (rest, s1) ∧ dj ++ rest = ds ∧ xj.length = xs.length - j ∧ noLs xj = true ∧ aV.length ≤ j ∧ H' Da = some (.lst aV) ∧ RpAll ca H' aV dj [] ∧ (∀ j2 e o, (st.env.set i (some (.list xj, true)))[j2]? = some (some (e, o)) → Da ∉ Fj j2) ∧ Fj i = [p] ∧
    ∀ a o, a ≠ p → a ≠ sa → a ≠ ca → H1 a = some o → H' a = some o) ?_ ?_ ?_ ?_
  · have gD : Grow sa ca H1 (upd H1 Da (.lst [])) := .new hD
    have es : st.env.set i (some (.list xs, true)) = st.env := by
      apply List.ext_getElem?
      intro z
      by_cases hz : i = z
      · subst hz
        rw [hs, List.getElem?_set_self (List.getElem?_eq_some_iff.mp hs).1]
      · rw [List.getElem?_set_ne hz]
    refine ⟨xs, [], [], st.src, ds, F, by rw [es]; exact r1.grow gD (rI.src.new hD), hgo, rfl, by simp, hn, Nat.le_refl _, upd_same, .nil, fun j2 e o q ha => ?_, hF, fun a o h1 h2 h3 h4 => gD.keep a o h2 h3 h4⟩
    rw [es] at q
    exact r1.trk q Da ha hD
  · rintro j H' _ ⟨xj, aV, dj, sj, rest, Fj, rj, _, _, _, _, _, _, _, _, _, gk⟩
    refine ⟨fun a ha => ?_, fun a ys e => gk a _ (fun z => by rw [z, hp] at e; cases e) (fun z => by rw [z, rI.src.1] at e; cases e) (fun z => by rw [z, rI.src.2] at e; cases e) e⟩
    obtain ⟨nca, zs, e⟩ := rI.trk a ha
    rw [e]
    exact gk a _ (fun z => pas (z ▸ ha)) (fun z => by rw [z, rI.src.1] at e; cases e) nca e
  · rintro j xv H2 H3 hj ⟨xj, aV, dj, sj, rest, Fj, rj, hgj, hdj, hlj, hnj, hlV, hDv, hrp, hsep, hFj, gk⟩ ⟨dv, cs, edv, hsame, hrx, hsub⟩
    refine ⟨ca, dv, cs, hrx, rfl, fun σ2 hV => ?_⟩
    have eσ : σ2 = (L2.wipe σ (own.map (·.2))).set l (some xv) := by cases hV; rfl
    have hlo : l ∈ own.map (·.2) := slots_own x0.nd ok.ix (.name l) t g4 l (by simp [slotsT])
    have sl : ∀ j, j ∉ own.map (·.2) → σ2[j]? = σ[j]? := fun j hj => by
      rw [eσ, List.getElem?_set_ne (fun z => hj (by rw [← z]; exact hlo)), wipe_out hj]
    refine ⟨wipe_ext (by rw [eσ]; simp [wipe_length]) sl, ?_⟩
    unfold tYes
    refine ite2 (fun _ => ?_) (fun hb => absurd rfl hb)
    have g23 : Grow sa ca H2 H3 := ⟨fun a o _ _ e => hsame a o e, fun a e => same_dom hsame e, fun a xs e => hsame a _ e⟩
    have x3 : SrcAt sa ca sj H3 := ⟨hsame _ _ rj.src.1, hsame _ _ rj.src.2⟩
    have r3 : Rel sx sa ca B ⟨st.env.set i (some (.list xj, true)), sj⟩ σ Fj H3 := rj.grow g23 x3
    have hil : i < st.env.length := (List.getElem?_eq_some_iff.mp hs).1
    have hsi : (st.env.set i (some (.list xj, true)))[i]? = some (some (.list xj, true)) := List.getElem?_set_self hil
    obtain ⟨p3, vs3, as3, ev3, hp3, hF3, rv3, _⟩ := r3.ownList hsi
    rw [ev] at ev3
    cases ev3
    obtain ⟨nn, hnn⟩ : ∃ nn, xs.length - j = nn + 1 := ⟨xs.length - j - 1, by omega⟩
    rw [hnn] at hgj
    simp only [mixGo] at hgj
    split at hgj <;> first | (cases hgj; done) | skip
    rename_i rr s2 hcf
    split at hgj <;> first | (cases hgj; done) | skip
    rename_i jj hjj
    split at hgj <;> first | (cases hgj; done) | skip
    rename_i dd hdd
    obtain ⟨pr, hg2, epr⟩ := Option.map_eq_some_iff.mp hgj
    obtain ⟨rest2, s1'⟩ := pr
    simp only [Prod.mk.injEq] at epr
    obtain ⟨rfl, rfl⟩ := epr
    refine ⟨.ref p, (sl i hni).trans ev, .inl ⟨rfl, _, SqL.of hp3⟩, ?_⟩
    -- the number that is drawn
    let env2 : Env := (List.replicate σ2.length none).set i (some (.list xj))
    have l2 : σ2.length = σ.length := by rw [eσ]; simp [wipe_length]
    have hi2 : i < σ2.length := by rw [l2, ← r.len]; exact hil
    have e2i : env2[i]? = some (some (.list xj)) := by
      show ((List.replicate σ2.length none).set i (some (PyData.list xj)))[i]? = _
      exact List.getElem?_set_self (by simpa using hi2)
    have hE : EnvAt sx sa ca H3 env2 σ2 Fj := by
      refine ⟨by simp [env2], fun z d e => ?_, fun z hz => by rw [sl z (ownSx_ok g3 z hz)]; exact r.sx z hz⟩
      by_cases hz : z = i
      · subst hz
        rw [e2i] at e
        cases e
        obtain ⟨v, e1, rp⟩ := r3.at_ z _ _ hsi
        exact ⟨v, (sl z hni).trans e1, rp⟩
      · have : env2[z]? = (List.replicate σ2.length none)[z]? := List.getElem?_set_ne (Ne.symm hz)
        rw [this, List.getElem?_replicate] at e
        split at e <;> cases e
    have hrun : run cf (.call f (.cons (.bi .len (.var i) .nil) .nil)) env2 sj = some (.int rr, true, s2) := by
      simp only [run, runs, e2i, bi1, Option.map_some, hcf, frC]
    refine ⟨sa, ca, env2, sj, Fj, _, _, s2, x3, hE, hrun, fun v H4 cs4 res => ?_⟩
    cases res.rp
    have r4 : Rel sx sa ca B ⟨st.env.set i (some (.list xj, true)), s2⟩ σ Fj H4 := r3.grow res.g res.src
    obtain ⟨p4, vs4, y4, ev4, hp4, hlen4, hy4, hF4, ry4, r5⟩ := r4.popD (j := jj) hsi hnj hdd
    rw [ev] at ev4
    cases ev4
    obtain ⟨b1, b2, b3, b4⟩ := ixN_seq hjj
    refine ⟨p, vs4, rr, jj, y4, rfl, rfl, hp4, by omega, by omega, by rw [hlen4]; exact b1, hy4, ?_⟩
    have D4 : H4 Da = some (.lst aV) := res.g.keep Da _ nD.1 nD.2 (hsame _ _ hDv)
    have D5 : upd H4 p (.lst (vs4.eraseIdx jj)) Da = some (.lst aV) := by rw [upd_ne nDp]; exact D4
    refine ⟨aV, D5, by omega, ?_⟩
    have hset : (st.env.set i (some (.list xj, true))).set i (some (.list (xj.eraseIdx jj), true)) = st.env.set i (some (.list (xj.eraseIdx jj), true)) := List.set_set ..
    rw [hset] at r5
    have sepD : ∀ j2 e o, (st.env.set i (some (.list (xj.eraseIdx jj), true)))[j2]? = some (some (e, o)) → Da ∉ setF Fj i [p] j2 := fun j2 e o q ha => by
      by_cases hz : j2 = i
      · rw [hz, setF_same] at ha
        exact nDp (by simpa using ha)
      · rw [setF_ne hz] at ha
        rw [List.getElem?_set_ne (Ne.symm hz)] at q
        exact hsep j2 e o (by rw [List.getElem?_set_ne (Ne.symm hz)]; exact q) ha
    have tupD : ∀ (G : Hp) (zs ws : List V), G Da = some (.lst zs) → ∀ a ys, G a = some (.tup ys) → upd G Da (.lst ws) a = some (.tup ys) := fun G zs ws hG a ys q => by
      rw [upd_ne (fun z => by rw [z, hG] at q; cases q)]; exact q
    have tup5 : ∀ a ys, H4 a = some (.tup ys) → upd H4 p (.lst (vs4.eraseIdx jj)) a = some (.tup ys) := fun a ys q => by
      rw [upd_ne (fun z => by rw [z, hp4] at q; cases q)]; exact q
    refine ⟨xj.eraseIdx jj, aV ++ [y4], dj ++ [dd], s2, rest2, setF Fj i [p], ?_, by rw [show xs.length - (j + 1) = nn by omega]; exact hg2, by simpa using hdj, ?_, noLs_erase _ _ hnj, by simp; omega, upd_same, ?_, sepD, setF_same, fun a o h1 h2 h3 h4 => ?_⟩
    · -- the row that grows is no one's
      refine ⟨⟨fun a o q1 q2 q3 q4 => ?_, fun a q1 => ?_, fun a ys q1 => tupD _ _ _ D5 a ys (r5.kp.tup a ys q1)⟩, ⟨by rw [upd_ne (Ne.symm nD.1)]; exact r5.src.1, by rw [upd_ne (Ne.symm nD.2)]; exact r5.src.2⟩, r5.len, fun z d o e => ?_, r5.sx, r5.own, r5.prov⟩
      · rw [upd_ne (fun z => by rw [z, hBD] at q4; cases q4)]
        exact r5.kp.kept a o q1 q2 q3 q4
      · by_cases z : a = Da
        · rw [z]; exact hBD
        · rw [upd_ne z] at q1; exact r5.kp.dom a q1
      · obtain ⟨v, e1, rp⟩ := r5.at_ z d o e
        exact ⟨v, e1, rp.mono (tupD _ _ _ D5) fun a ha => upd_ne fun zz => sepD z d o e (zz ▸ ha)⟩
    · rw [List.length_eraseIdx_of_lt (by omega)]
      omega
    · have rp4 : RpAll ca H4 aV dj [] := (hrp.mono (fun a ys q => hsame a _ q) (fun _ h => nomatch h)).grow x3 res.g
      have rp5 : RpAll ca (upd H4 p (.lst (vs4.eraseIdx jj))) aV dj [] := rp4.mono tup5 (fun _ h => nomatch h)
      exact RpAll.append (rp5.mono (tupD _ _ _ D5) fun _ h => nomatch h) (.cons (as := []) (bs := []) (ry4.mono (tupD _ _ _ D5) fun _ h => nomatch h) .nil)
    · rw [upd_ne (fun z => by rw [z, hD] at h4; cases h4), upd_ne h1]
      exact res.g.keep a o h2 h3 (hsame _ _ (gk a o h1 h2 h3 h4))
  · rintro H' ⟨xj, aV, dj, sj, rest, Fj, rj, hgj, hdj, hlj, hnj, hlV, hDv, hrp, hsep, hFj, gk⟩
    rw [Nat.sub_self] at hgj
    simp only [mixGo, Option.some.injEq, Prod.mk.injEq] at hgj
    obtain ⟨rfl, rfl⟩ := hgj
    rw [List.append_nil] at hdj
    subst hdj
    refine q _ _ [Da] rj.kp rj.src (.lst hDv nD.2 hrp) fun a ha => ?_
    rw [List.mem_singleton.mp ha]
    exact .inl hBD
end
end PV

/-! PV, part R: loops; every checked statement runs as it is read. -/
namespace PV
open PySem PySem.Spec PyProof.Rows L2
theorem _root_.L2.PSs.pvImp {X : Cx} {e : List Stmt} {t t' : TS} (h : PSs X e t) (i : ∀ D σ H, t' D σ H → t D σ H) : PSs X e t' := ⟨fun pins s σ H D I q => h.run pins s σ H D I (i D σ H q)⟩
section
variable {T : List FI} {N : List Str} {sx : Option Nat} {cf : CallF} {k : Nat} {X : Cx} {sc : Scope} {W : Nat}
variable {sa ca : Addr} {B : Base} {st st1 : S} {σ σ' : L2.St} {F F1 : Nat → List Addr} {H H' H1 : Hp} {s' : Src}

/-! ### a loop's own base -/
def own1 (st : S) (F : Nat → List Addr) (a : Addr) : Prop := ∃ j e, st.env[j]? = some (some (e, true)) ∧ a ∈ F j
def Base.loop (st : S) (F : Nat → List Addr) (H : Hp) (as : List Addr) : Base := ⟨H, own1 st F, fun a => (∃ j e o, st.env[j]? = some (some (e, o)) ∧ a ∈ F j) ∨ a ∈ as⟩
theorem Rel.loop (r : Rel sx sa ca B st σ F H) (as : List Addr) : Rel sx sa ca (Base.loop st F H as) st σ F H :=
  ⟨⟨fun _ _ _ _ _ e => e, fun _ e => e, fun _ _ e => e⟩, r.src, r.len, r.at_, r.sx, fun i d e => let ⟨n, _, s⟩ := r.own i d e; ⟨n, fun a ha => .inl ⟨i, d, e, ha⟩, s⟩, fun i d o e a ha => .inr (.inl ⟨i, d, o, e, ha⟩)⟩
theorem Kept.back (r : Rel sx sa ca B st σ F H1) {as : List Addr} (k : Kept sa ca (Base.loop st F H1 as) H) : Kept sa ca B H :=
  ⟨fun a o h1 h2 h3 e => k.kept a o (fun ⟨j, d, q, ha⟩ => by
    rcases (r.own j d q).2.1 a ha with z | z
    · exact h1 z
    · rw [z] at e; cases e) h2 h3 (r.kp.kept a o h1 h2 h3 e), fun a e => r.kp.dom a (k.dom a e), fun a xs e => k.tup a xs (r.kp.tup a xs e)⟩
theorem prov_back (r : Rel sx sa ca B st σ F H1) {as : List Addr} (pw : ∀ a ∈ as, B.H0 a = none ∨ B.P a) {a : Addr} (h : (Base.loop st F H1 as).H0 a = none ∨ (Base.loop st F H1 as).P a) : B.H0 a = none ∨ B.P a := by
  rcases h with z | ⟨j, e, o, q, ha⟩ | z
  · exact .inl (r.kp.dom a z)
  · exact r.prov j e o q a ha
  · exact pw a z
theorem Rel.back (r : Rel sx sa ca B st σ F H1) {as : List Addr} (pw : ∀ a ∈ as, B.H0 a = none ∨ B.P a) (r1 : Rel sx sa ca (Base.loop st F H1 as) st1 σ' F1 H) : Rel sx sa ca B st1 σ' F1 H :=
  ⟨r1.kp.back r, r1.src, r1.len, r1.at_, r1.sx, fun i d e => let ⟨n, b, s⟩ := r1.own i d e; ⟨n, fun a ha => by
    rcases b a ha with ⟨j, d2, q, hj⟩ | z
    · exact (r.own j d2 q).2.1 a hj
    · exact .inr (r.kp.dom a z), s⟩, fun i d o e a ha => prov_back r pw (r1.prov i d o e a ha)⟩
theorem Post.back {D : Ends} {fl : Fl} (r : Rel sx sa ca B st σ F H1) {as : List Addr} (pw : ∀ a ∈ as, B.H0 a = none ∨ B.P a) (q : Post sx sa ca B D fl st1) : Post sx sa ca (Base.loop st F H1 as) D fl st1 := by
  cases fl with
  | nx => exact fun σ' F' H' r1 => q σ' F' H' (r.back pw r1)
  | rt d => exact fun v H' bs k x rp pv => q v H' bs (k.back r) x rp fun a ha => prov_back r pw (pv a ha)

/-! ### for -/
theorem walk_imp {it : CI} {me : List Nat} {ds : List D} {R : It → Hp → Prop} (r : Rel sx sa ca B st σ F H) (hm : forWalk cf it me st = some (ds, st1))
    (q : ∀ J H' as, Rel sx sa ca B st1 σ F H' → Walk J ds.length (Per as H') (YI ca ds as) → (∀ a ∈ as, a ≠ ca ∧ ∃ xs, H' a = some (.lst xs)) → (∀ j e, st1.env[j]? = some (some (e, true)) → ∀ a ∈ F j, a ∉ as) → (∀ a ∈ as, B.H0 a = none ∨ B.P a) → R J H') : tI sx (runI cf it) σ H R := by
  unfold forWalk at hm
  split at hm
  · rename_i d1 fr s1 h1
    split at hm
    · rename_i hf
      cases hm
      refine ⟨sa, ca, _, _, F, _, fr, _, r.src, r.env, h1, fun J H' as res => q J H' as (r.grow res.g res.src) res.walk res.trk (fun j e q a ha hmem => r.trk q a ha (res.fr hf a hmem)) fun a ha => .inl (r.kp.dom a (res.fr hf a ha))⟩
    · split at hm
      · rename_i d2 fr2 s2 h2
        cases hm
        refine ⟨sa, ca, _, _, F, _, fr2, _, r.src, r.envM me, h2, fun J H' as res => q J H' as ((r.frz me).grow res.g res.src) res.walk res.trk (fun j e q a ha hmem => ?_) fun a ha => ?_⟩
        · obtain ⟨o', q', h⟩ := frz_any q
          obtain ⟨hj, rfl⟩ := h rfl
          rcases res.al a hmem with n | n
          · exact r.trk q' a ha n
          · obtain ⟨i, e2, o2, hi, q2, ha2⟩ := al_mask n
            rcases hj with hj | hj
            · exact (r.own j e q').2.2 i e2 o2 (fun z => hj (z ▸ hi)) q2 a ha ha2
            · rw [r.noLF q' hj] at ha; cases ha
        · rcases res.al a ha with n | n
          · exact .inl (r.kp.dom a n)
          · obtain ⟨i, e2, o2, hi, q2, ha2⟩ := al_mask n
            exact r.prov i e2 o2 q2 a ha2
      · cases hm
  · cases hm
theorem s_for {t : CT} {me : List Nat} {it : CI} {b : CSs} {tg i : Expr} {body : List Stmt} {pos : Pos} (lo : LenOk T cf) (x0 : XOk T N cf k X sc) (hfn : ∀ x, X.fn x = true) (h1 : chkT N (asnB N sx sc) t tg = true) (h2 : chkI T N sx it sc tg i = true) (hb : PSs X body (tS sx (exs cf W b))) :
    PS X (.For tg i body [] pos) (tS sx (ex cf W (.fort t me it b))) := by
  obtain ⟨gi, gs⟩ := (all_ok lo).2.2.1 it sc tg i X x0 h2
  refine (ps_for (by rw [x0.xe]; exact PassesOwn.never) x0.calm gi (pg_ct x0.nm x0.nd x0.calm (asn_ok x0 hfn) t tg h1) hb gs).pvImp fun D σ H ⟨sa, ca, B, st, F, fl, st', r, hm, q⟩ => ?_
  simp only [ex] at hm
  split at hm <;> first | (cases hm; done) | skip
  rename_i ds st1 hw
  refine walk_imp r hw fun J H1 as r1 wk trk sep pw => ?_
  have q' : Post sx sa ca (Base.loop st1 F H1 as) D fl st' := Post.back r1 pw q
  refine for_it wk (fun i σ H => ∃ st2 F2, Rel sx sa ca (Base.loop st1 F H1 as) st2 σ F2 H ∧ forLoop t (fun st => exs cf W b st) (ds.drop i) st2 = some (fl, st')) ⟨st1, F, r1.loop as, by simpa using hm⟩ ?_ ?_ ?_
  · rintro i σ2 H2 _ ⟨st2, F2, r2, _⟩
    refine ⟨fun a ha => ?_, fun a xs e => r2.kp.tup a xs e⟩
    obtain ⟨nca, xs, e⟩ := trk a ha
    rw [e]
    exact r2.kp.kept a _ (fun ⟨j, d, qq, hj⟩ => sep j d qq a hj ha) (fun z => by rw [z, r1.src.1] at e; cases e) nca e
  · rintro i x σ2 H2 Hx hi ⟨st2, F2, r2, hl⟩ ⟨d, bs, ed, same, rp, sub⟩
    have hdrop : ds.drop i = d :: ds.drop (i + 1) := by
      obtain ⟨hlt, ed⟩ := List.getElem?_eq_some_iff.mp ed
      rw [List.drop_eq_getElem_cons hlt, ed]
    rw [hdrop] at hl
    simp only [forLoop] at hl
    split at hl <;> first | (cases hl; done) | skip
    rename_i env hp
    have g2 : Grow sa ca H2 Hx := ⟨fun a o _ _ e => same a o e, fun a e => same_dom same e, fun a xs e => same a _ e⟩
    have xx : SrcAt sa ca st2.src Hx := ⟨same _ _ r2.src.1, same _ _ r2.src.2⟩
    have r3 : Rel sx sa ca (Base.loop st1 F H1 as) ⟨st2.env, st2.src⟩ σ2 F2 Hx := r2.grow g2 xx
    refine ⟨ca, d, bs, rp, putT_shape _ _ _ _ hp, fun σ3 hV => ?_⟩
    obtain ⟨F3, r4, _⟩ := putT_rel t x d bs σ2 σ3 st2.env env F2 hV hp r3 (fun j e qq a ha hmem => by
      rcases (r3.own j e qq).2.1 a ha with ⟨j2, e2, q2, h2⟩ | z
      · exact sep j2 e2 q2 a h2 (sub a hmem)
      · obtain ⟨_, xs, e3⟩ := trk a (sub a hmem)
        have z' : H1 a = none := z
        rw [z'] at e3; cases e3) (fun a ha => .inr (.inr (sub a ha))) (slots_sx t tg h1)
    split at hl <;> first | (cases hl; done) | skip
    · rename_i st4 he
      exact ⟨sa, ca, _, _, F3, .nx, st4, r4, he, fun σ5 F5 H5 r5 => ⟨st4, F5, r5, hl⟩⟩
    · rename_i dd st4 he
      cases hl
      exact ⟨sa, ca, _, _, F3, .rt _, _, r4, he, q'⟩
  · rintro σ2 H2 ⟨st2, F2, r2, hl⟩
    rw [List.drop_length] at hl
    simp only [forLoop] at hl
    cases hl
    exact q' _ _ _ r2

/-! ### while -/
theorem s_while {c : CE} {b : CSs} {e : Expr} {body : List Stmt} {pos : Pos} (lo : LenOk T cf) (x0 : XOk T N cf k X sc) (hc : chk T N sx c sc e = true) (hb : PSs X body (tS sx (exs cf W b))) :
    PS X (.While e body [] pos) (tS sx (ex cf W (.wh c b))) := by
  have gc := ((all_ok lo).1 c sc e X x0 hc).pt
  refine (ps_while (by rw [x0.xe]; exact PassesOwn.never) gc hb).pvImp fun D σ H ⟨sa, ca, B, st, F, fl, st', r, hm, q⟩ => ?_
  simp only [ex] at hm
  refine ⟨fun m σ H => ∃ st2 F2, Rel sx sa ca B st2 σ F2 H ∧ whLoop (fun st => match run cf c (vals st.env) st.src with | some (.bool v, _, s1) => some (v, ⟨st.env, s1⟩) | _ => none) (fun st => exs cf W b st) m st2 = some (fl, st'), ⟨_, st, F, r, hm⟩, ?_⟩
  rintro m σ2 H2 ⟨st2, F2, r2, hl⟩
  cases m with
  | zero => simp [whLoop] at hl
  | succ n =>
    simp only [whLoop] at hl
    split at hl <;> first | (cases hl; done) | skip
    · rename_i st3 hcv
      split at hcv <;> first | (cases hcv; done) | skip
      rename_i v fv s3 hr
      cases hcv
      refine test_imp r2 hr fun H3 r3 => ?_
      rw [if_pos rfl]
      split at hl <;> first | (cases hl; done) | skip
      · rename_i st4 he
        exact ⟨fun σ H => ∃ st2 F2, Rel sx sa ca B st2 σ F2 H ∧ whLoop (fun st => match run cf c (vals st.env) st.src with | some (.bool v, _, s1) => some (v, ⟨st.env, s1⟩) | _ => none) (fun st => exs cf W b st) n st2 = some (fl, st'), fun σ' H' h => ⟨n, Nat.lt_succ_self n, h⟩, sa, ca, B, _, F2, .nx, st4, r3, he, fun σ5 F5 H5 r5 => ⟨st4, F5, r5, hl⟩⟩
      · rename_i dd st4 he
        cases hl
        exact ⟨fun _ _ => False, fun _ _ h => h.elim, sa, ca, B, _, F2, .rt _, _, r3, he, q⟩
    · rename_i st3 hcv
      split at hcv <;> first | (cases hcv; done) | skip
      rename_i v fv s3 hr
      cases hcv
      cases hl
      refine test_imp r2 hr fun H3 r3 => ?_
      rw [if_neg Bool.false_ne_true]
      exact q _ _ _ r3

/-! ### all statements -/
def MS (T : List FI) (N : List Str) (sx : Option Nat) (cf : CallF) (k W : Nat) (c : CS) (sc : Scope) (s : Stmt) : Prop := ∀ X, XOk T N cf k X sc → (∀ x, X.fn x = true) → chkS T N sx c sc s = true → PS X s (tS sx (ex cf W c))
def MSs (T : List FI) (N : List Str) (sx : Option Nat) (cf : CallF) (k W : Nat) (c : CSs) (sc : Scope) (s : List Stmt) : Prop := ∀ X, XOk T N cf k X sc → (∀ x, X.fn x = true) → chkSs T N sx c sc s = true → PSs X s (tS sx (exs cf W c))
theorem alls_ok (lo : LenOk T cf) : (∀ c sc s, MS T N sx cf k W c sc s) ∧ (∀ c sc s, MSs T N sx cf k W c sc s) := by
  apply chkS.mutual_induct
  case case1 =>
    intro i me e sc x px ex0 pos X x0 hfn h
    simp only [chkS] at h
    obtain ⟨h, h3⟩ := andE h
    obtain ⟨h1, h2⟩ := andE h
    exact s_asg lo x0 hfn h1 h2 h3
  case case2 =>
    intro t me e sc ts kk p ex0 pos X x0 hfn h
    simp only [chkS] at h
    obtain ⟨h, h3⟩ := andE h
    obtain ⟨h1, h2⟩ := andE h
    exact s_asgT x0 hfn (notE h1) h2 ((all_ok lo).1 e sc ex0 X x0 h3).pe
  case case3 =>
    intro is es sc ts kt pt xs k2 p2 pos X x0 hfn h
    simp only [chkS] at h
    obtain ⟨h, h5⟩ := andE h
    obtain ⟨h, h4⟩ := andE h
    obtain ⟨h, h3⟩ := andE h
    obtain ⟨h1, h2⟩ := andE h
    exact s_par x0 hfn h1 ((all_ok lo).2.2.2.2 es sc xs X x0 h2) (of_decide_eq_true h3) (notE h4) h5
  case case4 =>
    intro i x e sc n pn ix p ex0 pos X x0 hfn h
    simp only [chkS] at h
    obtain ⟨h, h6⟩ := andE h
    obtain ⟨h, h5⟩ := andE h
    obtain ⟨h, h4⟩ := andE h
    obtain ⟨h, h3⟩ := andE h
    obtain ⟨h1, h2⟩ := andE h
    exact s_setx lo x0 h1 h2 h3 (notE h4) h5 h6
  case case5 =>
    intro i o e sc x px op ex0 pos X x0 hfn h
    simp only [chkS] at h
    obtain ⟨h, h4⟩ := andE h
    obtain ⟨h, h3⟩ := andE h
    obtain ⟨h1, h2⟩ := andE h
    exact s_aug lo x0 hfn h1 h2 (of_decide_eq_true h3) h4
  case case6 =>
    intro i x o e sc n pn ix p op ex0 pos X x0 hfn h
    simp only [chkS] at h
    obtain ⟨h, h6⟩ := andE h
    obtain ⟨h, h5⟩ := andE h
    obtain ⟨h, h4⟩ := andE h
    obtain ⟨h, h3⟩ := andE h
    obtain ⟨h1, h2⟩ := andE h
    exact s_augx lo x0 h1 h2 h3 (of_decide_eq_true h4) h5 h6
  case case7 =>
    intro i e sc n pn m ap x cp pos X x0 hfn h
    simp only [chkS] at h
    obtain ⟨h, h7⟩ := andE h
    obtain ⟨h, h6⟩ := andE h
    obtain ⟨h, h5⟩ := andE h
    obtain ⟨h, h4⟩ := andE h
    obtain ⟨h, h3⟩ := andE h
    obtain ⟨h1, h2⟩ := andE h
    exact s_append lo x0 (beq_iff_eq.mp h1) h2 h3 h4 h5 (notE h6) h7
  case case8 =>
    intro t me it b sc tg i body pos hb X x0 hfn h
    simp only [chkS] at h
    obtain ⟨h, h3⟩ := andE h
    obtain ⟨h1, h2⟩ := andE h
    exact s_for lo x0 hfn h1 h2 (hb X x0 hfn h3)
  case case9 =>
    intro c b sc e body pos hb X x0 hfn h
    simp only [chkS] at h
    obtain ⟨h1, h2⟩ := andE h
    exact s_while lo x0 h1 (hb X x0 hfn h2)
  case case10 =>
    intro c a b sc e x y pos ha hb X x0 hfn h
    simp only [chkS] at h
    obtain ⟨h, h3⟩ := andE h
    obtain ⟨h1, h2⟩ := andE h
    refine (ps_if ((all_ok lo).1 c sc e X x0 h1).pt (ha X x0 hfn h2) (hb X x0 hfn h3)).pvImp fun D σ H ⟨sa, ca, B, st, F, fl, st', r, hm, q⟩ => ?_
    simp only [ex] at hm
    split at hm <;> first | (cases hm; done) | skip
    · rename_i fb s1 hr
      refine test_imp r hr fun H' r1 => ?_
      rw [if_pos rfl]
      exact ⟨sa, ca, B, _, F, fl, st', r1, hm, q⟩
    · rename_i fb s1 hr
      refine test_imp r hr fun H' r1 => ?_
      rw [if_neg Bool.false_ne_true]
      exact ⟨sa, ca, B, _, F, fl, st', r1, hm, q⟩
  case case11 =>
    intro e sc ex0 pos X x0 hfn h
    simp only [chkS] at h
    refine (ps_ret ((all_ok lo).1 e sc ex0 X x0 h).pe).pvImp fun D σ H ⟨sa, ca, B, st, F, fl, st', r, hm, q⟩ => ?_
    simp only [ex] at hm
    split at hm <;> first | (cases hm; done) | skip
    rename_i d fr s1 hr
    cases hm
    exact read_imp r hr fun v H' as r1 res => q v H' as r1.kp r1.src res.rp fun a ha => r.provV (res.al a ha)
  case case12 =>
    intro sc pos X x0 hfn h
    refine ps_retN.pvImp fun D σ H ⟨sa, ca, B, st, F, fl, st', r, hm, q⟩ => ?_
    simp only [ex] at hm
    cases hm
    exact q .non H [] r.kp r.src .non fun _ h => nomatch h
  case case13 =>
    intro e sc ex0 pos X x0 hfn h
    simp only [chkS] at h
    obtain ⟨h1, h2⟩ := andE h
    refine (ps_expr ((all_ok lo).1 e sc ex0 X x0 h2).pe (sw_plain (notE h1))).pvImp fun D σ H ⟨sa, ca, B, st, F, fl, st', r, hm, q⟩ => ?_
    simp only [ex] at hm
    split at hm <;> first | (cases hm; done) | skip
    rename_i d fr s1 hr
    cases hm
    exact read_imp r hr fun v H' as r1 res => q _ _ _ r1
  case case14 =>
    intro sc pos X x0 hfn h
    refine ps_pass.pvImp fun D σ H ⟨sa, ca, B, st, F, fl, st', r, hm, q⟩ => ?_
    simp only [ex] at hm
    cases hm
    exact q _ _ _ r
  case case15 =>
    intro f e sc n p key kk p2 p3 ex0 pos X x0 hfn h
    simp only [chkS] at h
    obtain ⟨h, h4⟩ := andE h
    obtain ⟨h, h3⟩ := andE h
    obtain ⟨h1, h2⟩ := andE h
    exact s_sSet lo x0 (beq_iff_eq.mp h1) h2 (notE h3) h4
  case case16 =>
    intro sc n p key kk p1 p3 n2 p2 key2 kk2 p4 p5 m ap cp pos X x0 hfn h
    simp only [chkS] at h
    obtain ⟨h, h6⟩ := andE h
    obtain ⟨h, h5⟩ := andE h
    obtain ⟨h, h4⟩ := andE h
    obtain ⟨h, h3⟩ := andE h
    obtain ⟨h1, h2⟩ := andE h
    exact s_sPop x0 (beq_iff_eq.mp h1) h2 (beq_iff_eq.mp h3) h4 (beq_iff_eq.mp h5) h6
  case case17 =>
    intro ts es sc us kt pt xs k2 p2 pos X x0 hfn h
    simp only [chkS] at h
    obtain ⟨h, h4⟩ := andE h
    obtain ⟨h, h3⟩ := andE h
    obtain ⟨h1, h2⟩ := andE h
    exact s_parX lo x0 hfn h1 ((all_ok lo).2.2.2.2 es sc xs X x0 h2) (beq_iff_eq.mp h4)
  case case18 =>
    intro t i o sc tg n pn m ap args cp pos X x0 hfn h
    simp only [chkS] at h
    obtain ⟨h, h7⟩ := andE h
    obtain ⟨h, h6⟩ := andE h
    obtain ⟨h, h5⟩ := andE h
    obtain ⟨h, h4⟩ := andE h
    obtain ⟨h, h3⟩ := andE h
    obtain ⟨h1, h2⟩ := andE h
    exact s_popT lo x0 hfn h1 h2 h3 h4 (beq_iff_eq.mp h5) h6 h7
  case case19 =>
    intro own l i f sc n pn m ap x cp t it scope pp pos X x0 hfn h
    simp only [chkS] at h
    obtain ⟨h, h13⟩ := andE h
    obtain ⟨h, h12⟩ := andE h
    obtain ⟨h, h11⟩ := andE h
    obtain ⟨h, h10⟩ := andE h
    obtain ⟨h, h9⟩ := andE h
    obtain ⟨h, h8⟩ := andE h
    obtain ⟨h, h7⟩ := andE h
    obtain ⟨h, h6⟩ := andE h
    obtain ⟨h, h5⟩ := andE h
    obtain ⟨h, h4⟩ := andE h
    obtain ⟨h, h3⟩ := andE h
    obtain ⟨h1, h2⟩ := andE h
    exact s_mix lo x0 h1 h2 h3 h4 h5 h6 h7 h8 (beq_iff_eq.mp h9) h10 (notE h11) h12 (notE h13)
  case case20 =>
    intro i e sc n pn m ap x cp pos X x0 hfn h
    simp only [chkS] at h
    obtain ⟨h, h7⟩ := andE h
    obtain ⟨h, h6⟩ := andE h
    obtain ⟨h, h5⟩ := andE h
    obtain ⟨h, h4⟩ := andE h
    obtain ⟨h, h3⟩ := andE h
    obtain ⟨h1, h2⟩ := andE h
    exact s_extend lo x0 (beq_iff_eq.mp h1) h2 h3 h4 h5 (notE h6) h7
  case case21 =>
    intro is me es sc ts kt pt xs k2 p2 pos X x0 hfn h
    simp only [chkS] at h
    obtain ⟨h, h5⟩ := andE h
    obtain ⟨h, h4⟩ := andE h
    obtain ⟨h, h3⟩ := andE h
    obtain ⟨h1, h2⟩ := andE h
    exact s_parM x0 hfn h1 ((all_ok lo).2.2.2.2 es sc xs X x0 h2) (of_decide_eq_true h3) (notE h4) h5
  case case22 =>
    intros
    intro X x0 hfn h
    rw [chkS.eq_22] at h
    · cases h
    all_goals assumption
  case case23 =>
    intro sc X x0 hfn h
    refine pss_nil.pvImp fun D σ H ⟨sa, ca, B, st, F, fl, st', r, hm, q⟩ => ?_
    simp only [exs] at hm
    cases hm
    exact q _ _ _ r
  case case24 =>
    intro a r sc s ss ha hr X x0 hfn h
    simp only [chkSs] at h
    obtain ⟨h1, h2⟩ := andE h
    refine (pss_cons (ha X x0 hfn h1) (hr X x0 hfn h2)).pvImp fun D σ H ⟨sa, ca, B, st, F, fl, st', r0, hm, q⟩ => ?_
    simp only [exs] at hm
    split at hm <;> first | (cases hm; done) | skip
    · rename_i st1 he
      exact ⟨sa, ca, B, st, F, .nx, st1, r0, he, fun σ2 F2 H2 r2 => ⟨sa, ca, B, st1, F2, fl, st', r2, hm, q⟩⟩
    · rename_i d st1 he
      cases hm
      exact ⟨sa, ca, B, st, F, .rt _, _, r0, he, q⟩
  case case25 =>
    intros
    intro X x0 hfn h
    rw [chkSs.eq_3] at h
    · cases h
    all_goals assumption
end
end PV

/-! PV, part S: defs, the law's end. -/
namespace PV
open PySem PySem.Spec PyProof.Rows L2

/-! ### a def's promise by its body, where no repr is under way -/
section
variable {P : Program} {w : World} {K : PySem.W.Frag} {mg : Str → Option Value} {base : Heap} {k : Nat} {f : Addr} {x qual : Str} {params : Arguments} {body : List Stmt} {scope : Scope} {fd : FuncData} {N ps : List Str} {sp : Sp}
theorem fnG_of (FD : FunD K x qual params body scope [] [] f fd) (S : FnScope N ps scope) (hlen : ∀ vs H Q, sp vs H Q E0 → vs.length = ps.length)
    (hbody : ∀ (cdv : Value) (A : Around) (outer : List PySem.Env) (s : Shared) (H : Hp) (vs : List V) (Q : VK), A.guards = some [] → Room k (A.deeper (envOfC qual scope s.heap.objs.size f cdv)) → sp vs H Q E0 →
      ∃ t, PSs (cxOf CX0 P w K mg base N qual scope f cdv A outer s H E0).nox body t ∧ t { nx := fun _ H' => Q .non H', rt := Q } (start N vs) H) :
    FnG P w K mg base (k + 1) f fd ps sp := by
  obtain ⟨oc, od, dV, kV, doc, pm, an, cdv, ct, osl, rfl, lk, hcd, _, _⟩ := FD.ex
  refine ⟨hlen, fun A outer s H args us vs Q hg hr e0 hb r hsp => ?_⟩
  have hl := hlen _ _ _ hsp
  have KX : K.In s.heap := e0.mod.kin.keeps fun b o e => (e0.bs b o e).1
  have hk : ∀ y ∈ ps.zip us, scope.names.lookup y.1 = some .local ∨ (scope.names.lookup y.1 = some .cell ∧ ((cellsFrom (s.heap.objs.size + 1) scope.names []).lookup y.1).isSome = true) := by
    rintro ⟨n, v⟩ hy
    exact (S.par n (List.of_mem_zip hy).1).imp_right fun q => ⟨q, PySem.W.cellsFrom_some _ _ _ (.inl q)⟩
  refine codeAny_call_function (by have := hr.dp; omega) (KX _ _ lk) rfl S.co S.gen rfl (PySem.W.codeRec_of KX hcd) (hb _ _ _ _ (wpAny_newFunctionEnv_cells S.kind hk fun env he s1 hx => ?_))
  subst he
  refine ⟨(e0.mod.nolimit.keeps fun b o e => (e0.bs b o e).1).keeps hx.toInCall.keep, codeAny_func ?_⟩
  obtain ⟨t, ht, hq⟩ := hbody cdv A outer s H vs Q hg (hr.deeper _) hsp
  have I : Inv (cxOf CX0 P w K mg base N qual scope f cdv A outer s H E0) [] (start N vs) H s1 := inv_start S hr.hd e0 hl r hx
  refine wpAny_mono ((PSs.nox ht).run [] s1 (start N vs) H _ I hq) (fun fl s' hs => ?_) fun e s' hs => hs
  cases fl with
  | ret u => exact let ⟨v, _, H', J, rv, q⟩ := hs; ⟨v, H', J.os, J.bare, J.base, J.hok, rv, q⟩
  | next => exact let ⟨_, H', J, q⟩ := hs; ⟨.non, H', J.os, J.bare, J.base, J.hok, rfl, q⟩
  | brk => exact let ⟨_, _, _, q⟩ := hs; q.elim
  | cont => exact let ⟨_, _, _, q⟩ := hs; q.elim

/-! ### the law itself is called -/
theorem lawG_call {mb : Str → Option Value} {fa a : Addr} {y : Str} {st : Shared} {vs : List Value} {ns : List Int} (KX : K.In st.heap) (h1 : st.heap.Ns mainGlobals mg) (h2 : st.heap.Ns builtinsNs mb) (h3 : ∀ x : Str, x ≠ "__name__" → mb x = bootBuiltins x) (h4 : st.heap.NoLimit) (hg : st.gens = #[])
    (ha : st.heap.get? a = some { cls := .type "list", data := .seq vs.toArray }) (hi : IntsAre vs ns) (hl : ns.length ≤ sizeLine) (hr : Room k callerA) (FG : ∀ base : Heap, K.In base → base.Ns mainGlobals mg → FnG P w K mg base k fa fd [y] sp)
    (hbd : ∀ (s : Shared) (u : Value), BindsTo s fd ⟨[u], []⟩ [(y, u)]) (hsp : ∀ H : Hp, Only H → SqL K H a (ns.map V.int) → sp [.ref a] H (fun v _ => v = .bl true) E0) :
    codeAny (model P w) callerA (.call (.ref fa) ⟨[.ref a], []⟩) (fun r s' => r = .ok (.ret (.bool true)) ∧ OldK st.heap s'.heap ∧ s'.os = st.os ∧ AllBare s'.gens) st := by
  have rv : Vals (ns.map V.int) vs := vals_ints hi
  have hlv := hi.length
  have main : ∀ H : Hp, Only H → SqL K H a (ns.map V.int) → HOk P w H st.heap → (∀ b, H b ≠ none → b = a) → (H a ≠ none → K.lookup a = none) → codeAny (model P w) callerA (.call (.ref fa) ⟨[.ref a], []⟩)
      (fun r s' => r = .ok (.ret (.bool true)) ∧ OldK st.heap s'.heap ∧ s'.os = st.os ∧ AllBare s'.gens) st := by
    intro H hO hS hok only hK
    have isA : ∀ {b : Addr} {u : HO}, H b = some u → b = a := fun q => only _ (by rw [q]; simp)
    have noDict : ∀ {b : Addr} {o : Obj} {es : Array DictEntry} {ep : Nat}, st.heap.get? b = some o → o.data = .dict es ep → H b = none := by
      intro b o es ep e d
      cases q : H b with
      | none => rfl
      | some u =>
        cases isA q
        rw [ha] at e
        cases e
        exact absurd (show Data.seq vs.toArray _ = Data.dict es ep from d) (fun z => nomatch z)
    have nsIn : ∀ {b : Addr} {m : Str → Option Value}, st.heap.Ns b m → (hidT st.heap H).Ns b m := fun ⟨o, es, ep, e, d, r⟩ => ⟨o, es, ep, hidT_get e (noDict e d), d, r⟩
    have kIn : K.In (hidT st.heap H) := fun b o e => hidT_get (KX b o e) (by
      cases q : H b with
      | none => rfl
      | some u =>
        cases isA q
        rw [hK (by rw [q]; simp)] at e
        cases e)
    have hM : Mod K mg (hidT st.heap H) := ⟨kIn, nsIn h1, ⟨mb, nsIn h2, h3⟩, let ⟨mc, q1, q2⟩ := h4; ⟨mc, nsIn q1, q2⟩⟩
    have e0 : Env0 P w K mg (hidT st.heap H) callerA [] st H := ⟨rfl, hM, (fun b o e => of_hidT e), Nat.le_of_eq (hidT_size _ _), trivial, (fun b hb => nomatch (show b ∈ ([] : List Addr) from hb)), hok, .of_eq hg⟩
    refine codeAny_mono ((FG _ kIn (nsIn h1)).run callerA [] st H ⟨[.ref a], []⟩ [.ref a] [.ref a] _ rfl hr e0 (hbd st (.ref a)) (.cons rfl .nil) (hsp H hO hS)) fun r s' h => ?_
    match r, h with
    | .ok (.ret u), ⟨v, H', os, bare, un, hok', r', q⟩ =>
      have q' : v = .bl true := q
      subst q'
      cases (show u = Value.bool true from r')
      refine ⟨rfl, OldK.of_keep fun b o e => ?_, os, bare⟩
      cases q : H b with
      | none => exact un.keep b o e q (fun z => nomatch (show b ∈ ([] : List Addr) from z)) (by simp)
      | some u =>
        rcases hO b with z | ⟨ob, xs, z⟩
        · rw [q] at z
          cases z
        · have e1 := (hok b _ z).1
          rw [e] at e1
          cases e1
          exact (hok' b _ (un.frzs b _ _ z)).1
    | .error e, h => exact (show False from h).elim
  cases hk : K.lookup a with
  | some o =>
    have e := KX a o hk
    rw [ha] at e
    cases e
    exact main (fun _ => none) (fun _ => .inl rfl) (.inr ⟨_, vs.toArray, _, hk, rfl, rfl, rfl, (by rw [List.size_toArray, hlv]; exact hl), by simpa using rv⟩) (fun b u z => nomatch (show (none : Option HO) = some u from z)) (fun b z => absurd rfl z) fun z => absurd rfl z
  | none =>
    let ob : Obj := { cls := .type "list", data := .seq vs.toArray }
    have at_ : ∀ {b : Addr} {u : HO}, (if b = a then some (HO.frz ob (.lst (ns.map V.int))) else none) = some u → b = a ∧ u = .frz ob (.lst (ns.map V.int)) := by
      intro b u z
      split at z
      · rename_i hb
        exact ⟨hb, (Option.some.inj z).symm⟩
      · cases z
    refine main (fun b => if b = a then some (.frz ob (.lst (ns.map V.int))) else none) (fun b => ?_) (.inl (.inr ⟨ob, if_pos rfl⟩)) (fun b u z => ?_) (fun b z => ?_) fun _ => hk
    · rcases Decidable.em (b = a) with hb | hb
      · exact .inr ⟨ob, _, if_pos hb⟩
      · exact .inl (if_neg hb)
    · obtain ⟨rfl, rfl⟩ := at_ z
      exact ⟨ha, (by rw [List.length_map]; exact hl), vs, _, rv, ha⟩
    · exact Decidable.byContradiction fun hb => z (if_neg hb)
end
/-- the law of a row, by its def's promise -/
theorem walkG {l : PySem.W.OpenLaw} {n k : Nat} {q : Program} {loose : List Str} {XP : (Str → Option Value) → Heap → Prop} {YP : World → Heap → Prop} {d : DefRec} {y : Str} (hn : l.most = some n) (hn2 : n ≤ sizeLine) (hdf : d.params.defaults = []) (hr : Room k callerA)
    (FF : ∀ (w : World) (mg : Str → Option Value) (fa : Addr) (h : Heap), YP w h → h.Ns mainGlobals mg → mg d.name = some (.ref fa) → ∃ (K : PySem.W.Frag) (fd : FuncData) (sp : Sp), K.In h ∧ (∀ (s : Shared) (u : Value), BindsTo s fd ⟨[u], []⟩ [(y, u)]) ∧
      (∀ (H : Hp) (a : Addr) (ns : List Int), ns.length ≤ n → Only H → SqL K H a (ns.map V.int) → sp [.ref a] H (fun v _ => v = .bl true) E0) ∧ ∀ base : Heap, K.In base → base.Ns mainGlobals mg → FnG l.prog w K mg base k fa fd [y] sp) :
    PySem.W.WalkO q loose XP YP l.row.toRowW d [] (fun f vs => PySem.call f vs) := by
  refine Att.attach_call hn hdf fun w s0 st mg mb fa o pm cd doc a vs ns G Y ho hd hcd hmg hobj hints hlen hg => ?_
  obtain ⟨K, fd, sp, KX, hb, hsp, hF⟩ := FF w mg fa _ Y G.T.g hmg
  exact lawG_call KX G.T.g G.T.b G.T.builtins G.T.nolimit hg hobj hints (Nat.le_trans hlen hn2) hr hF hb fun H hO hS => hsp H a ns hlen hO hS
end PV

/-! PV, part T: the table of the defs; each keeps its promise. -/
namespace PV
open PySem PySem.Spec PyProof.Rows L2

structure DefC where
  fi : FI
  N : List Str
  body : CSs
def sxOf (d : DefC) : Option Nat := if d.fi.hs then some 0 else none
def ent (xs : List D) (n : Nat) : EnvS := (xs.map fun x => some (x, noL x)) ++ List.replicate n none
def entry (d : DefC) (xs : List D) : EnvS := if d.fi.hs then none :: ent xs (d.N.length - d.fi.ps.length) else ent xs (d.N.length - d.fi.ps.length)
def outF : Option (Fl × S) → Option (D × Src)
  | some (.nx, st) => some (.none, st.src)
  | some (.rt v, st) => some (v, st.src)
  | none => none
def callK (T : List DefC) (W : Nat) : Nat → CallF
  | 0 => fun _ _ _ => none
  | k + 1 => fun i xs s => match T[i]? with
    | none => none
    | some d => if (if d.fi.hs then 1 else 0) + xs.length = d.fi.ps.length then outF (exs (callK T W k) W d.body ⟨entry d xs, s⟩) else none
def fis (T : List DefC) : List FI := T.map (·.fi)
theorem fis_get {T : List DefC} {i : Nat} {fi : FI} (h : (fis T)[i]? = some fi) : ∃ d, T[i]? = some d ∧ d.fi = fi := by
  unfold fis at h
  rw [List.getElem?_map] at h
  exact Option.map_eq_some_iff.mp h
theorem callK_len {T : List DefC} {W : Nat} : ∀ k, LenOk (fis T) (callK T W k)
  | 0 => fun i fi ds s _ h => absurd rfl h
  | k + 1 => fun i fi ds s hi h => by
    obtain ⟨d, hd, rfl⟩ := fis_get hi
    by_cases e : (if d.fi.hs then 1 else 0) + ds.length = d.fi.ps.length
    · exact e
    · simp only [callK, hd] at h
      rw [if_neg e] at h
      exact absurd rfl h
theorem ent_get {xs : List D} {n i : Nat} {d : D} {o : Bool} (h : (ent xs n)[i]? = some (some (d, o))) : xs[i]? = some d ∧ o = noL d := by
  unfold ent at h
  by_cases hi : i < (xs.map fun x => (some (x, noL x) : Option (D × Bool))).length
  · rw [List.getElem?_append_left hi, List.getElem?_map] at h
    cases e : xs[i]? with
    | none => rw [e] at h; cases h
    | some x =>
      rw [e] at h
      simp only [Option.map_some, Option.some.injEq, Prod.mk.injEq] at h
      exact ⟨by rw [h.1], by rw [← h.2, h.1]⟩
  · rw [List.getElem?_append_right (by omega), List.getElem?_replicate] at h
    split at h <;> cases h
theorem rpF {ca : Addr} {H : Hp} : ∀ {ds : List D} {vs : List V} {as : List Addr}, RpAll ca H vs ds as → ∃ F : Nat → List Addr, ∀ i d, ds[i]? = some d → ∃ v, vs[i]? = some v ∧ Rp ca H v d (F i) ∧ ∀ a ∈ F i, a ∈ as
  | [], _, _, _ => ⟨fun _ => [], fun i d h => by simp at h⟩
  | d :: ds, _, _, h => by
    cases h with
    | @cons v vs _ _ as bs h1 h2 =>
      obtain ⟨F, hF⟩ := rpF h2
      refine ⟨fun i => match i with | 0 => as | i + 1 => F i, fun i e he => ?_⟩
      cases i with
      | zero =>
        simp only [List.getElem?_cons_zero, Option.some.injEq] at he
        subst he
        exact ⟨v, rfl, h1, fun a ha => List.mem_append_left _ ha⟩
      | succ i =>
        obtain ⟨u, e1, r, sub⟩ := hF i e (by simpa using he)
        exact ⟨u, by simpa using e1, r, fun a ha => List.mem_append_right _ (sub a ha)⟩
theorem start_get {N : List Str} {vs : List V} {i : Nat} {v : V} (h : vs[i]? = some v) : (start N vs)[i]? = some (some v) := by
  unfold L2.start
  have hi : i < (vs.map some).length := by rw [List.length_map]; exact (List.getElem?_eq_some_iff.mp h).1
  rw [List.getElem?_append_left hi, List.getElem?_map, h]
  rfl
theorem start_len {N : List Str} {vs : List V} : (start N vs).length = vs.length + (N.length - vs.length) := by
  unfold L2.start
  rw [List.length_append, List.length_map, List.length_replicate]
theorem rel_start {sa ca : Addr} {s : Src} {H : Hp} {d : DefC} {xs : List D} {ws : List V} {as : List Addr} (x : SrcAt sa ca s H) (r : RpAll ca H ws xs as) (hl : ((if d.fi.hs then [V.ref sa] else []) ++ ws).length = d.fi.ps.length) :
    ∃ F, Rel (sxOf d) sa ca ⟨H, fun _ => False, fun a => a ∈ as⟩ ⟨entry d xs, s⟩ (start d.N ((if d.fi.hs then [V.ref sa] else []) ++ ws)) F H := by
  obtain ⟨G, hG⟩ := rpF r
  have kp : Kept sa ca ⟨H, fun _ => False, fun a => a ∈ as⟩ H := ⟨fun _ _ _ _ _ e => e, fun _ e => e, fun _ _ e => e⟩
  have lw := r.len
  cases hs : d.fi.hs with
  | false =>
    simp only [hs, Bool.false_eq_true, if_false, List.nil_append] at hl ⊢
    have ee : entry d xs = ent xs (d.N.length - d.fi.ps.length) := by simp [entry, hs]
    rw [ee]
    refine ⟨G, kp, x, ?_, fun i e o q => ?_, fun i q => ?_, fun i e q => ?_, fun i e o q a ha => ?_⟩
    · rw [start_len, hl]
      simp [ent]
      omega
    · obtain ⟨q1, _⟩ := ent_get q
      obtain ⟨v, e1, rp, _⟩ := hG i e q1
      exact ⟨v, start_get e1, rp⟩
    · simp [sxOf, hs] at q
    · obtain ⟨q1, q2⟩ := ent_get q
      obtain ⟨v, e1, rp, _⟩ := hG i e q1
      rw [rp.noL_nil q2.symm]
      exact ⟨List.nodup_nil, (fun _ h => nomatch h), fun _ _ _ _ _ _ h => nomatch h⟩
    · obtain ⟨q1, _⟩ := ent_get q
      obtain ⟨v, e1, rp, sub⟩ := hG i e q1
      exact .inr (sub a ha)
  | true =>
    simp only [hs, if_true, List.cons_append, List.nil_append] at hl ⊢
    have ee : entry d xs = none :: ent xs (d.N.length - d.fi.ps.length) := by simp [entry, hs]
    rw [ee]
    refine ⟨fun i => G (i - 1), kp, x, ?_, fun i e o q => ?_, fun i q => ?_, fun i e q => ?_, fun i e o q a ha => ?_⟩
    · rw [start_len, hl]
      simp only [List.length_cons] at hl
      simp [ent]
      omega
    · cases i with
      | zero => simp at q
      | succ i =>
        obtain ⟨q1, _⟩ := ent_get (by simpa using q)
        obtain ⟨v, e1, rp, _⟩ := hG i e q1
        exact ⟨v, start_get (by simpa using e1), rp⟩
    · simp only [sxOf, hs, if_true, Option.some.injEq] at q
      subst q
      exact start_get rfl
    · cases i with
      | zero => simp at q
      | succ i =>
        obtain ⟨q1, q2⟩ := ent_get (by simpa using q)
        obtain ⟨v, e1, rp, _⟩ := hG i e q1
        simp only [Nat.add_sub_cancel]
        rw [rp.noL_nil q2.symm]
        exact ⟨List.nodup_nil, (fun _ h => nomatch h), fun _ _ _ _ _ _ h => nomatch h⟩
    · cases i with
      | zero => simp at q
      | succ i =>
        obtain ⟨q1, _⟩ := ent_get (by simpa using q)
        obtain ⟨v, e1, rp, sub⟩ := hG i e q1
        exact .inr (sub a ha)

/-! ### what must be seen of a def -/
def nodupB : List Str → Bool
  | [] => true
  | x :: r => !(r.contains x) && nodupB r
theorem nodupB_ok : ∀ {l : List Str}, nodupB l = true → l.Nodup
  | [], _ => List.nodup_nil
  | x :: r, h => by
    obtain ⟨h1, h2⟩ := andE h
    refine List.nodup_cons.mpr ⟨fun hm => ?_, nodupB_ok h2⟩
    have := notE h1
    rw [List.contains_iff_mem.mpr hm] at this
    cases this
def fnScB (N ps : List Str) (sc : Scope) : Bool := (match sc.kind with | .function => true | _ => false) && !sc.isCoroutine && !sc.isGenerator && nodupB N && (N.take ps.length == ps) &&
  ps.all (fun x => match sc.names.lookup x with | some .local | some .cell => true | _ => false) && sc.names.all fun y => match y.2 with | .free => false | _ => true
theorem fnScB_ok {N ps : List Str} {sc : Scope} (h : fnScB N ps sc = true) : FnScope N ps sc := by
  obtain ⟨h, h7⟩ := andE h
  obtain ⟨h, h6⟩ := andE h
  obtain ⟨h, h5⟩ := andE h
  obtain ⟨h, h4⟩ := andE h
  obtain ⟨h, h3⟩ := andE h
  obtain ⟨h1, h2⟩ := andE h
  refine ⟨?_, notE h2, notE h3, nodupB_ok h4, beq_iff_eq.mp h5, fun x hx => ?_, fun y hy e => ?_⟩
  · split at h1
    · assumption
    · cases h1
  · have := List.all_eq_true.mp h6 x hx
    split at this
    · rename_i e; exact .inl e
    · rename_i e; exact .inr e
    · cases this
  · have := List.all_eq_true.mp h7 y hy
    rw [e] at this
    cases this
def okDef (T : List FI) (d : DefC) (sc : Scope) (body : List Stmt) : Bool := fnScB d.N d.fi.ps sc && chkSs T d.N (sxOf d) d.body sc body
structure DefOk (K : PySem.W.Frag) (mg : Str → Option Value) (T : List FI) (d : DefC) : Prop where
  ex : ∃ (f : Addr) (fd : FuncData) (x qual : Str) (params : Arguments) (body : List Stmt) (sc : Scope), mg d.fi.name = some (.ref f) ∧ Binds K fd d.fi.ps [] ∧ FunD K x qual params body sc [] [] f fd ∧ okDef T d sc body = true
theorem xok_of {T : List DefC} {W : Nat} {P : Program} {w : World} {K : PySem.W.Frag} {mg : Str → Option Value} {base : Heap} {k : Nat} {N : List Str} {qual : Str} {sc : Scope} {f : Addr} {cdv : Value} {A : Around} {outer : List PySem.Env} {s : Shared} {H : Hp} (gl : ∀ b ∈ bnames, mg b = none)
    (IH : ∀ i fi, (fis T)[i]? = some fi → ∃ f fd, mg fi.name = some (.ref f) ∧ PySem.W.keepIn K (.ref f) = true ∧ Binds K fd fi.ps [] ∧ FnG P w K mg base k f fd fi.ps (spOf (callK T W k) fi i))
    (nd : N.Nodup) (kind : sc.kind = .function) (hg : A.guards = some []) (hr : Room k (A.deeper (envOfC qual sc s.heap.objs.size f cdv))) : XOk (fis T) N (callK T W k) k (cxOf CX0 P w K mg base N qual sc f cdv A outer s H E0).nox sc :=
  ⟨rfl, nd, rfl, rfl, rfl, kind, hr, by have := hr.un; show (A.deeper (envOfC qual sc s.heap.objs.size f cdv)).units + 200 < _; omega, hg, gl, IH⟩
theorem defs_ok {T : List DefC} {W : Nat} {P : Program} {w : World} {K : PySem.W.Frag} {mg : Str → Option Value} {base : Heap} (gl : ∀ b ∈ bnames, mg b = none) (ok : ∀ (i : Nat) d, T[i]? = some d → DefOk K mg (fis T) d) :
    ∀ k, ∀ i fi, (fis T)[i]? = some fi → ∃ f fd, mg fi.name = some (.ref f) ∧ PySem.W.keepIn K (.ref f) = true ∧ Binds K fd fi.ps [] ∧ FnG P w K mg base k f fd fi.ps (spOf (callK T W k) fi i)
  | 0 => fun i fi hi => by
    obtain ⟨d, hd, rfl⟩ := fis_get hi
    obtain ⟨f, fd, x, qual, params, body, sc, hm, hb, FD, _⟩ := (ok i d hd).ex
    refine ⟨f, fd, hm, FD.kp, hb, ⟨fun vs H Q ⟨_, _, _, _, _, _, _, _, _, _, _, hl, _⟩ => hl, fun A outer s H args us vs Q _ _ _ _ _ ⟨_, _, _, _, _, _, _, _, _, _, _, _, hc, _⟩ => ?_⟩⟩
    cases hc
  | k + 1 => fun i fi hi => by
    have IH := defs_ok (W := W) (P := P) (w := w) (base := base) gl ok k
    obtain ⟨d, hd, rfl⟩ := fis_get hi
    obtain ⟨f, fd, x, qual, params, body, sc, hm, hb, FD, hok⟩ := (ok i d hd).ex
    obtain ⟨h1, h2⟩ := andE hok
    have S := fnScB_ok h1
    refine ⟨f, fd, hm, FD.kp, hb, fnG_of FD S (fun vs H Q ⟨_, _, _, _, _, _, _, _, _, _, _, hl, _⟩ => hl) fun cdv A outer s H vs Q hg hr hsp => ?_⟩
    obtain ⟨sa, ca, xs, as, s0, r, s', ws, hs, rfl, rp, hl, hc, q⟩ := hsp
    have x0 := xok_of (s := s) (H := H) (outer := outer) (cdv := cdv) (f := f) gl IH S.nd S.kind hg hr
    refine ⟨_, (alls_ok (W := W) (callK_len k)).2 d.body sc body _ x0 (fun _ => rfl) h2, ?_⟩
    obtain ⟨F, rel⟩ := rel_start hs rp hl
    simp only [callK, hd] at hc
    by_cases el : (if d.fi.hs then 1 else 0) + xs.length = d.fi.ps.length
    case neg => rw [if_neg el] at hc; cases hc
    rw [if_pos el] at hc
    unfold outF at hc
    split at hc <;> first | (cases hc; done) | skip
    · rename_i st he
      cases hc
      refine ⟨sa, ca, _, _, F, .nx, st, rel, he, fun σ F' H' r' => ?_⟩
      exact q .non H' [] ⟨fun a o h1 h2 e => r'.kp.kept a o (fun z => z) h1 h2 e, r'.kp.dom, r'.kp.tup⟩ r'.src .non fun _ h => nomatch h
    · rename_i v st he
      cases hc
      refine ⟨sa, ca, _, _, F, .rt _, st, rel, he, fun u H' bs kp x rp' pv => ?_⟩
      exact q u H' bs ⟨fun a o h1 h2 e => kp.kept a o (fun z => z) h1 h2 e, kp.dom, kp.tup⟩ x rp' pv
end PV

/-! PV, part U: the law's source is made; the law's body. -/
namespace PV
open PySem PySem.Spec PyProof.Rows L2

def mixOf (ns : List Int) : Int := ns.foldl (fun m c => (m * 69069 + c * 31 + 5) % 2147483629) 11
def srcOf (ns : List Int) : Src := ⟨(ns.map fun i => if i < 0 then -i else i).reverse, 1, mixOf ns, 0⟩
def srcN : List Str := ["script", "mixed", "cell"]
/-- the body of _law_source -/
abbrev srcBody (cs : Scope) (p1 p2 p3 p4 p5 p6 p7 p8 p9 p10 p11 p12 p13 p14 p15 p16 p17 p18 p19 p20 p21 p22 p23 p24 p25 p26 p27 p28 p29 p30 p31 p32 p33 p34 p35 p36 p37 p38 p39 p40 : Pos) : List Stmt :=
  [.Assign [.Name "mixed" p1] (.Constant (.int 11) 0 p2) p3,
   .For (.Name "cell" p4) (.Name "script" p5) [.Assign [.Name "mixed" p6] (.BinOp (.Call (.Name "int" p7) [.BinOp (.BinOp (.BinOp (.Name "mixed" p8) .Mult (.Constant (.int 69069) 0 p9) p10) .Add (.BinOp (.Name "cell" p11) .Mult (.Constant (.int 31) 0 p12) p13) p14) .Add (.Constant (.int 5) 0 p15) p16] [] p17) .Mod (.Constant (.int 2147483629) 0 p18) p19) p20] [] p21,
   .Return (some (.Dict [some (.Constant (.str "cells") 0 p22), some (.Constant (.str "left") 0 p23), some (.Constant (.str "mixed") 0 p24), some (.Constant (.str "turn") 0 p25)]
     [.Subscript (.ListComp (.Call (.Name "abs" p26) [.Name "cell" p27] [] p28) [⟨.Name "cell" p29, .Name "script" p30, [], 0⟩] cs p31) (.Slice none none (some (.UnaryOp .USub (.Constant (.int 1) 0 p32) p33)) p34) p35, .Constant (.int 1) 0 p36, .Name "mixed" p37, .Constant (.int 0) 0 p38] p39)) p40]
def rMod : R2 := rI (fun _ j => 0 < j) fun i j => .int (i % j)
def rInt1 : List V → Hp → VK → Prop := fun xs H Q => (∃ i, xs = [.int i] ∧ Q (.int i) H) ∨ ∃ k, xs = [.bl k] ∧ Q (.int (if k then 1 else 0)) H
def rAbs1 : List V → Hp → VK → Prop := fun xs H Q => ∃ i, xs = [.int i] ∧ Q (.int (if i < 0 then -i else i)) H
def rAdd1 : R2 := rI0 fun i j => .int (i + j)
def rMul1 : R2 := rI CMul fun i j => .int (i * j)
def tMix : TE := tOp rMod (tCB rInt1 (tCons (tOp rAdd1 (tOp rAdd1 (tOp rMul1 (tVar 1) (tC (.int 69069))) (tOp rMul1 (tVar 2) (tC (.int 31)))) (tC (.int 5))) tNil)) (tC (.int 2147483629))
def tCells (K : PySem.W.Frag) : TE := tRevL K (tLc (iList K (tVar 0)) (gName 2) tYes (tCB rAbs1 (tCons (tVar 2) tNil)) [2])
def tSrcB (K : PySem.W.Frag) : TS := tSeq (tAsg (tC (.int 11)) (gName 1)) (tSeq (tFor (iList K (tVar 0)) (gName 2) (tAsg tMix (gName 1)))
  (tRet (tDisp [(tC (.str "cells"), tCells K), (tC (.str "left"), tC (.int 1)), (tC (.str "mixed"), tVar 1), (tC (.str "turn"), tC (.int 0))])))
section
variable {T : List FI} {cf : CallF} {k : Nat} {X : Cx} {sc cs : Scope}
def srcScB (sc cs : Scope) : Bool := isVis sc "script" && isVis sc "mixed" && isVis sc "cell" && asnB srcN none sc "mixed" && asnB srcN none sc "cell" && isGl sc "int" && blkC srcN sc cs [("cell", 2)] && ownLoc cs [("cell", 2)] && isVis (relS cs sc) "cell" && isGl (relS cs sc) "abs"
theorem src_pss {p1 p2 p3 p4 p5 p6 p7 p8 p9 p10 p11 p12 p13 p14 p15 p16 p17 p18 p19 p20 p21 p22 p23 p24 p25 p26 p27 p28 p29 p30 p31 p32 p33 p34 p35 p36 p37 p38 p39 p40 : Pos} (x0 : XOk T srcN cf k X sc) (hfn : ∀ x, X.fn x = true) (h : srcScB sc cs = true) :
    PSs X (srcBody cs p1 p2 p3 p4 p5 p6 p7 p8 p9 p10 p11 p12 p13 p14 p15 p16 p17 p18 p19 p20 p21 p22 p23 p24 p25 p26 p27 p28 p29 p30 p31 p32 p33 p34 p35 p36 p37 p38 p39 p40) (tSrcB X.K) := by
  obtain ⟨h, ga⟩ := andE h
  obtain ⟨h, vb⟩ := andE h
  obtain ⟨h, ol⟩ := andE h
  obtain ⟨h, hb⟩ := andE h
  obtain ⟨h, gi⟩ := andE h
  obtain ⟨h, a2⟩ := andE h
  obtain ⟨h, a1⟩ := andE h
  obtain ⟨h, v2⟩ := andE h
  obtain ⟨v0, v1⟩ := andE h
  have vv : ∀ {x : Str}, isVis sc x = true → Vis X.env.scope x := fun h => by rw [x0.scp]; exact isVis_ok h
  have n0 : X.N[0]? = some ("script" : Str) := by rw [x0.nm]; rfl
  have n1 : X.N[1]? = some ("mixed" : Str) := by rw [x0.nm]; rfl
  have n2 : X.N[2]? = some ("cell" : Str) := by rw [x0.nm]; rfl
  have nd : X.N.Nodup := by rw [x0.nm]; exact x0.nd
  have as1 := (asn_ok (sx := none) x0 hfn).ok _ a1
  have as2 := (asn_ok (sx := none) x0 hfn).ok _ a2
  have okb : BlkOk srcN sc cs [("cell", 2)] := blkOk_by hb
  have e0 : PE X (.Name "script" p5) (tVar 0) := pe_var n0 (vv v0)
  refine pss_cons (ps_set (i := 1) nd n1 as1.1 pe_int rfl (.inl (hfn _))) (pss_cons (ps_for (by rw [x0.xe]; exact PassesOwn.never) x0.calm (pi_list e0) (pg_name (i := 2) nd n2 as2.1 (.inl (hfn _))) (pss_one (ps_set (i := 1) nd n1 as1.1 ?_ rfl (.inl (hfn _))))) (pss_one (ps_ret (pe_disp (pps_cons pe_str ?_ (pps_cons pe_str pe_int (pps_cons pe_str (pe_var n1 (vv v1)) (pps_cons pe_str pe_int pps_nil)))) rfl rfl (by simp) (by simp)))))
  · exact pe_op op_mod (pe_callTy call_int1 (gl_ok x0 gi) (x0.gl _ (by simp [bnames])) boot_int (pa_cons (pe_op op_add (pe_op op_add (pe_op op_mul (pe_var n1 (vv v1)) pe_int) (pe_op op_mul (pe_var n2 (vv v2)) pe_int)) pe_int) pa_nil)) pe_int
  · refine pe_revL (pe_lc (own := [("cell", 2)]) x0.calm nd (pi_list (pe_var n0 (vv v0))) (by rw [x0.nm, x0.scp]; exact okb) (fun s H C cl fp => ?_) (fun _ _ _ _ _ => pts_nil) (fun s H C cl fp => ?_))
    · have xb := x0.blk okb.kind s H C cl fp
      have ab := (blk_asn x0 ol s H C cl fp).ok "cell" rfl
      exact pg_name (i := 2) (by rw [xb.nm]; exact xb.nd) (by rw [xb.nm]; rfl) ab.1 ab.2
    · have xb := x0.blk okb.kind s H C cl fp
      exact pe_callB call_abs (gl_ok xb ga) (xb.gl _ (by simp [bnames])) boot_abs (pa_cons (pe_var (by rw [xb.nm]; rfl) (by rw [xb.scp]; exact isVis_ok vb)) pa_nil)
end
theorem mix_step {ns : List Int} {i : Nat} {c : Int} (h : ns[i]? = some c) : mixOf (ns.take (i + 1)) = (mixOf (ns.take i) * 69069 + c * 31 + 5) % 2147483629 := by
  unfold mixOf
  obtain ⟨hi, e⟩ := List.getElem?_eq_some_iff.mp h
  rw [List.take_succ_eq_append_getElem hi, List.foldl_append, e]
  rfl
theorem src_run {K : PySem.W.Frag} {D : Ends} {H : Hp} {a : Addr} {ns : List Int} (hl : ns.length ≤ 63) (hs : SqL K H a (ns.map V.int)) (hk : ∀ H', (∀ b o, H b = some o → H' b = some o) → SqL K H' a (ns.map V.int)) (q : ∀ sa ca H', SrcAt sa ca (srcOf ns) H' → (∀ b o, H b = some o → H' b = some o) → D.rt (.ref sa) H') :
    tSrcB K D (start srcN [.ref a]) H := by
  show tFor (iList K (tVar 0)) (gName 2) (tAsg tMix (gName 1)) _ _ H
  refine ⟨.ref a, rfl, a, rfl, ⟨_, hs⟩, ?_⟩
  refine for_list (xs := ns.map V.int) (fun i σ H' => H' = H ∧ ∃ c, σ = [some (.ref a), some (.int (mixOf (ns.take i))), c]) ⟨rfl, none, rfl⟩ ?_ ?_ ?_
  · rintro i σ H' _ ⟨rfl, _⟩
    exact hs
  · rintro i x σ H' hx ⟨rfl, c, rfl⟩
    rw [List.getElem?_map] at hx
    obtain ⟨n, hn, rfl⟩ := Option.map_eq_some_iff.mp hx
    have hm := mix_step hn
    have l1 : CMul (mixOf (ns.take i)) 69069 := .inr ⟨by decide, by decide⟩
    have l2 : CMul n 31 := .inr ⟨by decide, by decide⟩
    show tMix [some (.ref a), some (.int (mixOf (ns.take i))), some (.int n)] H' _
    refine ⟨_, rfl, _, _, rfl, rfl, l1, _, rfl, _, _, rfl, rfl, l2, _, _, rfl, rfl, _, _, rfl, rfl, .inl ⟨_, rfl, _, _, rfl, rfl, (show (0 : Int) < 2147483629 by decide), rfl, some (.int n), ?_⟩⟩
    rw [hm]
    rfl
  · rintro σ H' ⟨rfl, c, rfl⟩
    rw [List.length_map, List.take_length]
    show tDisp _ [some (.ref a), some (.int (mixOf ns)), c] H' D.rt
    intro p hp
    simp only [tPairs]
    show tCells K [some (.ref a), some (.int (mixOf ns)), c] (upd H' p (.dK [])) _
    have keep1 : ∀ b o, H' b = some o → upd H' p (.dK []) b = some o := fun b o e => by rw [upd_ne (ne_of_none e hp)]; exact e
    refine ⟨.ref a, rfl, a, rfl, ⟨_, hk _ keep1⟩, fun D hD => ?_⟩
    have nDp : D ≠ p := fun z => by rw [z, upd_same] at hD; cases hD
    refine lc_list (xs := ns.map V.int) (fun i H2 => (∀ b o, upd H' p (.dK []) b = some o → H2 b = some o) ∧ H2 D = some (.lst ((ns.take i).map fun n => .int (if n < 0 then -n else n)))) ⟨fun b o e => by rw [upd_ne (ne_of_none e hD)]; exact e, upd_same⟩ ?_ ?_ ?_
    · rintro i H2 _ ⟨k2, _⟩
      exact hk _ fun b o e => k2 b o (keep1 b o e)
    · rintro i x H2 hx ⟨k2, hd⟩
      rw [List.getElem?_map] at hx
      obtain ⟨n, hn, rfl⟩ := Option.map_eq_some_iff.mp hx
      refine ⟨rfl, ?_⟩
      unfold tYes
      simp only [if_true]
      refine ⟨.int n, rfl, n, rfl, _, hd, ?_, fun b o e => ?_, ?_⟩
      · rw [List.length_map, List.length_take]
        rw [sizeLine_eq]; omega
      · rw [upd_ne (fun z => by rw [z] at e; rw [hD] at e; cases e)]
        exact k2 b o e
      · rw [upd_same]
        obtain ⟨hi, e⟩ := List.getElem?_eq_some_iff.mp hn
        rw [List.take_succ_eq_append_getElem hi, List.map_append, e]
        rfl
    · rintro H2 ⟨k2, hd⟩
      rw [List.length_map, List.take_length] at hd
      refine ⟨D, _, rfl, SqL.of hd, fun t ht => ?_⟩
      have np : p ≠ t := fun z => by rw [← z, k2 p _ upd_same] at ht; cases ht
      have hp2 : upd H2 t (.lst (ns.map fun n => V.int (if n < 0 then -n else n)).reverse) p = some (.dK []) := by rw [upd_ne np]; exact k2 p _ upd_same
      refine ⟨_, rfl, hp2, [(kCells, .ref t), (kLeft, .int 1), (kMixed, .int (mixOf ns)), (kTurn, .int 0)], rfl, by simp, ?_⟩
      refine q p t _ ⟨upd_same, ?_⟩ fun b o e => ?_
      · rw [upd_ne (Ne.symm np), upd_same]
        simp [srcOf, List.map_reverse]
      · have nbp : b ≠ p := ne_of_none e hp
        have e2 := k2 b o (keep1 b o e)
        rw [upd_ne nbp, upd_ne (ne_of_none e2 ht)]
        exact e2

/-! ### the two promises -/
theorem sql_keep {K : PySem.W.Frag} {H H' : Hp} {a : Addr} {xs : List V} (h : SqL K H a xs) (k : ∀ b o, H b = some o → H' b = some o) : SqL K H' a xs := by
  rcases h with (e | ⟨o, e⟩) | e
  · exact .inl (.inl (k _ _ e))
  · exact .inl (.inr ⟨o, k _ _ e⟩)
  · exact .inr e
def spSrc (K : PySem.W.Frag) : Sp := fun vs H Q _ => ∃ (a : Addr) (ns : List Int), vs = [.ref a] ∧ ns.length ≤ 63 ∧ SqL K H a (ns.map V.int) ∧ ∀ sa ca H', SrcAt sa ca (srcOf ns) H' → (∀ b o, H b = some o → H' b = some o) → Q (.ref sa) H'
def spLaw (K : PySem.W.Frag) : Sp := fun vs H Q _ => ∃ (a : Addr) (ns : List Int), vs = [.ref a] ∧ ns.length ≤ 63 ∧ SqL K H a (ns.map V.int) ∧ ∀ H', Q (.bl true) H'
section
variable {T : List DefC} {W : Nat} {P : Program} {w : World} {K : PySem.W.Frag} {mg : Str → Option Value} {base : Heap} {k : Nat} {f fs : Addr} {x qual xs quals : Str} {params paramss : Arguments} {body bodys : List Stmt} {sc cs scs : Scope} {fd fds : FuncData}
def isSrcBody (cs : Scope) (body : List Stmt) : Prop := ∃ p1 p2 p3 p4 p5 p6 p7 p8 p9 p10 p11 p12 p13 p14 p15 p16 p17 p18 p19 p20 p21 p22 p23 p24 p25 p26 p27 p28 p29 p30 p31 p32 p33 p34 p35 p36 p37 p38 p39 p40, body = srcBody cs p1 p2 p3 p4 p5 p6 p7 p8 p9 p10 p11 p12 p13 p14 p15 p16 p17 p18 p19 p20 p21 p22 p23 p24 p25 p26 p27 p28 p29 p30 p31 p32 p33 p34 p35 p36 p37 p38 p39 p40
theorem src_fn (gl : ∀ b ∈ bnames, mg b = none) (FD : FunD K x qual params body sc [] [] f fd) (h1 : fnScB srcN ["script"] sc = true) (h2 : srcScB sc cs = true) (hb : isSrcBody cs body) : FnG P w K mg base (k + 1) f fd ["script"] (spSrc K) := by
  obtain ⟨p1, p2, p3, p4, p5, p6, p7, p8, p9, p10, p11, p12, p13, p14, p15, p16, p17, p18, p19, p20, p21, p22, p23, p24, p25, p26, p27, p28, p29, p30, p31, p32, p33, p34, p35, p36, p37, p38, p39, p40, rfl⟩ := hb
  have S := fnScB_ok h1
  refine fnG_of FD S (fun vs H Q ⟨a, ns, e, _⟩ => by rw [e]; rfl) fun cdv A outer s H vs Q hg hr ⟨a, ns, e, hl, hs, q⟩ => ?_
  subst e
  have x0 := xok_of (T := []) (W := 0) (s := s) (H := H) (outer := outer) (cdv := cdv) (f := f) (P := P) (w := w) (K := K) (base := base) gl (fun i fi h => by simp [fis] at h) S.nd S.kind hg hr
  exact ⟨_, src_pss x0 (fun _ => rfl) h2, src_run hl hs (fun H' k => sql_keep hs k) q⟩
/-- the law: its own source first, then what is compiled -/
theorem law_fn {N : List Str} {c : CSs} {rest : List Stmt} {p1 p2 p3 p4 p5 : Pos} (gl : ∀ b ∈ bnames, mg b = none) (ok : ∀ (i : Nat) d, T[i]? = some d → DefOk K mg (fis T) d) (FD : FunD K x qual params (.Assign [.Name "source" p1] (.Call (.Name "_law_source" p2) [.Name "script" p3] [] p4) p5 :: rest) sc [] [] f fd)
    (FS : FunD K xs quals paramss bodys scs [] [] fs fds) (bS : Binds K fds ["script"] []) (gS : mg "_law_source" = some (.ref fs)) (h1 : fnScB srcN ["script"] scs = true) (h2 : srcScB scs cs = true) (hb : isSrcBody cs bodys)
    (hN : fnScB N ["script"] sc = true) (hsc : (atN N 1 "source" && isVis sc "script" && asnB N none sc "source" && isGl sc "_law_source") = true) (hc : chkSs (fis T) N (some 1) c sc rest = true)
    (hlaw : ∀ ns : List Int, ns.length ≤ 63 → ∃ st, exs (callK T W (k + 1)) W c ⟨List.replicate N.length none, srcOf ns⟩ = some (.rt (.bool true), st)) : FnG P w K mg base (k + 2) f fd ["script"] (spLaw K) := by
  have S := fnScB_ok hN
  have IH := defs_ok (W := W) (P := P) (w := w) (base := base) gl ok (k + 1)
  obtain ⟨hsc, g4⟩ := andE hsc
  obtain ⟨hsc, g3⟩ := andE hsc
  obtain ⟨g1, g2⟩ := andE hsc
  refine fnG_of FD S (fun vs H Q ⟨a, ns, e, _⟩ => by rw [e]; rfl) fun cdv A outer s H vs Q hg hr ⟨a, ns, e, hl, hs, q⟩ => ?_
  subst e
  have x0 := xok_of (s := s) (H := H) (outer := outer) (cdv := cdv) (f := f) gl IH S.nd S.kind hg hr
  have hfn : ∀ x, ((cxOf CX0 P w K mg base N qual sc f cdv A outer s H E0).nox).fn x = true := fun _ => rfl
  have GS : FnG P w K mg base (k + 1) fs fds ["script"] (spSrc K) := src_fn gl FS h1 h2 hb
  have h0 : N[0]? = some ("script" : Str) := by
    have := S.pre
    cases N with
    | nil => cases this
    | cons a r => simpa using this
  have ao := (asn_ok (sx := none) x0 hfn).ok _ g3
  have v0 : PE ((cxOf CX0 P w K mg base N qual sc f cdv A outer s H E0).nox) (.Name "script" p3) (tVar 0) := pe_var (by rw [x0.nm]; exact h0) (by rw [x0.scp]; exact isVis_ok g2)
  refine ⟨_, pss_cons (ps_set (i := 1) (by rw [x0.nm]; exact x0.nd) (by rw [x0.nm]; exact atN_ok g1) ao.1 (pe_callG (p := p2) x0 GS (gl_ok x0 g4) gS FS.kp bS (pa_cons v0 pa_nil) (by decide) rfl rfl) rfl (.inl rfl)) ((alls_ok (W := W) (callK_len (k + 1))).2 c sc rest _ x0 hfn hc), ?_⟩
  have lN : 2 ≤ N.length := by
    have := atN_ok g1
    have := (List.getElem?_eq_some_iff.mp this).1
    omega
  have l0 : (start N [V.ref a])[0]? = some (some (.ref a)) := start_get rfl
  refine ⟨.ref a, l0, a, ns, rfl, hl, hs, fun sa ca H' src keep => ?_⟩
  obtain ⟨st, he⟩ := hlaw ns hl
  have none_at : ∀ {i : Nat} {d : D} {o : Bool}, (List.replicate N.length (none : Option (D × Bool)))[i]? ≠ some (some (d, o)) := fun {i d o} z => by
    rw [List.getElem?_replicate] at z
    split at z <;> cases z
  refine ⟨sa, ca, ⟨H', fun _ => False, fun _ => False⟩, ⟨List.replicate N.length none, srcOf ns⟩, fun _ => [], .rt (.bool true), st, ⟨⟨fun _ _ _ _ _ e => e, fun _ e => e, fun _ _ e => e⟩, src, ?_, fun i d o z => absurd z none_at, fun i e => ?_, fun i d z => absurd z none_at, fun i d o z => absurd z none_at⟩, he, fun v H2 as _ _ rp _ => ?_⟩
  · rw [List.length_set, start_len, List.length_replicate]
    simp
    omega
  · cases e
    rw [List.getElem?_set_self (by rw [start_len]; simp; omega)]
  · cases rp
    exact q H2
end
end PV

/-! PV, part X: what a run gives, rule by rule (plain Lean, no program in sight). -/
namespace PV
open PySem PySem.Spec

def O1 {α : Type} (m : Option α) (Q : α → Prop) : Prop := match m with | some a => Q a | none => False
def O2 {α β : Type} (m : Option (α × β)) (Q : α → β → Prop) : Prop := match m with | some (a, b) => Q a b | none => False
def O3 {α β γ : Type} (m : Option (α × β × γ)) (Q : α → β → γ → Prop) : Prop := match m with | some (a, b, c) => Q a b c | none => False
section
variable {α β γ : Type}
@[simp] theorem O1_some {a : α} {Q : α → Prop} : O1 (some a) Q = Q a := rfl
@[simp] theorem O1_none {Q : α → Prop} : O1 none Q = False := rfl
@[simp] theorem O2_some {a : α} {b : β} {Q : α → β → Prop} : O2 (some (a, b)) Q = Q a b := rfl
@[simp] theorem O2_none {Q : α → β → Prop} : O2 none Q = False := rfl
@[simp] theorem O3_some {a : α} {b : β} {c : γ} {Q : α → β → γ → Prop} : O3 (some (a, b, c)) Q = Q a b c := rfl
@[simp] theorem O3_none {Q : α → β → γ → Prop} : O3 none Q = False := rfl
@[simp] theorem O1_ite {c : Prop} [Decidable c] {a : α} {Q : α → Prop} : O1 (if c then some a else none) Q = (c ∧ Q a) := by by_cases h : c <;> simp [h]
theorem O1_of {m : Option α} {Q : α → Prop} : O1 m Q ↔ ∃ a, m = some a ∧ Q a := by cases m <;> simp
theorem O2_of {m : Option (α × β)} {Q : α → β → Prop} : O2 m Q ↔ ∃ a b, m = some (a, b) ∧ Q a b := by
  rcases m with _ | ⟨a, b⟩
  · simp
  · exact ⟨fun h => ⟨a, b, rfl, h⟩, fun ⟨_, _, e, h⟩ => by cases e; exact h⟩
theorem O3_of {m : Option (α × β × γ)} {Q : α → β → γ → Prop} : O3 m Q ↔ ∃ a b c, m = some (a, b, c) ∧ Q a b c := by
  rcases m with _ | ⟨a, b, c⟩
  · simp
  · exact ⟨fun h => ⟨a, b, c, rfl, h⟩, fun ⟨_, _, _, e, h⟩ => by cases e; exact h⟩
theorem O1.mono {m : Option α} {Q Q' : α → Prop} (h : O1 m Q) (i : ∀ a, Q a → Q' a) : O1 m Q' := by
  cases m with
  | none => exact h
  | some a => exact i a h
theorem O2.mono {m : Option (α × β)} {Q Q' : α → β → Prop} (h : O2 m Q) (i : ∀ a b, Q a b → Q' a b) : O2 m Q' := by
  rcases m with _ | ⟨a, b⟩
  · exact h
  · exact i a b h
theorem O3.mono {m : Option (α × β × γ)} {Q Q' : α → β → γ → Prop} (h : O3 m Q) (i : ∀ a b c, Q a b c → Q' a b c) : O3 m Q' := by
  rcases m with _ | ⟨a, b, c⟩
  · exact h
  · exact i a b c h
end
section
variable (cf : CallF) (W : Nat)
def WE (e : CE) (env : Env) (s : Src) (Q : D → Bool → Src → Prop) : Prop := O3 (run cf e env s) Q
def WEs (e : CEs) (env : Env) (s : Src) (Q : List D → Bool → Src → Prop) : Prop := O3 (runs cf e env s) Q
def WI (e : CI) (env : Env) (s : Src) (Q : List D → Bool → Src → Prop) : Prop := O3 (runI cf e env s) Q
def WO (e : CO) (env : Env) (s : Src) (Q : Option Int → Src → Prop) : Prop := O2 (runO cf e env s) Q
def WC (e : CO) (env : Env) (s : Src) (Q : Bool → Src → Prop) : Prop := O2 (runC cf e env s) Q
def WS (c : CS) (st : S) (Q : Fl → S → Prop) : Prop := O2 (ex cf W c st) Q
def WSs (c : CSs) (st : S) (Q : Fl → S → Prop) : Prop := O2 (exs cf W c st) Q
end
def getV (env : Env) (i : Nat) : Option D := match env[i]? with | some (some d) => some d | _ => none
section
variable {cf : CallF} {W : Nat} {env : Env} {s : Src} {Q : D → Bool → Src → Prop} {Qs : List D → Bool → Src → Prop}
theorem we_var {i : Nat} : WE cf (.var i) env s Q = O1 (getV env i) fun d => Q d (frC d) s := by
  unfold WE getV
  simp only [run]
  rcases env[i]? with _ | _ | d <;> rfl
theorem we_none : WE cf .none env s Q = Q .none true s := by simp [WE, run]
theorem we_tru : WE cf .tru env s Q = Q (.bool true) true s := by simp [WE, run]
theorem we_fls : WE cf .fls env s Q = Q (.bool false) true s := by simp [WE, run]
theorem we_int {i : Int} : WE cf (.int i) env s Q = Q (.int i) true s := by simp [WE, run]
theorem we_str {i : Str} : WE cf (.str i) env s Q = Q (.str i) true s := by simp [WE, run]
theorem we_op {o : Op2} {a b : CE} : WE cf (.op o a b) env s Q = WE cf a env s fun x _ s1 => WE cf b env s1 fun y _ s2 => O1 (op2 o x y) fun z => Q z (frN z) s2 := by
  unfold WE
  simp only [run]
  rcases run cf a env s with _ | ⟨x, f, s1⟩
  · rfl
  · simp only [O3_some]
    rcases run cf b env s1 with _ | ⟨y, g, s2⟩
    · rfl
    · simp only [O3_some]
      cases op2 o x y <;> rfl
theorem we_neg {a : CE} : WE cf (.neg a) env s Q = WE cf a env s fun x _ s1 => O1 (asI x) fun i => Q (.int (-i)) true s1 := by
  unfold WE
  simp only [run]
  rcases run cf a env s with _ | ⟨x, f, s1⟩
  · rfl
  · cases x <;> rfl
theorem we_cmp {o : Cm} {a b : CE} : WE cf (.cmp o a b) env s Q = WE cf a env s fun x _ s1 => WE cf b env s1 fun y _ s2 => O1 (cm2 o x y) fun z => Q (.bool z) true s2 := by
  unfold WE
  simp only [run]
  rcases run cf a env s with _ | ⟨x, f, s1⟩
  · rfl
  · simp only [O3_some]
    rcases run cf b env s1 with _ | ⟨y, g, s2⟩
    · rfl
    · simp only [O3_some]
      cases cm2 o x y <;> rfl
theorem we_chain {o p : Cm} {a b c : CE} : WE cf (.chain o p a b c) env s Q = WE cf a env s fun x _ s1 => WE cf b env s1 fun y _ s2 => O1 (cm2 o x y) fun z => if z = true then WE cf c env s2 fun w _ s3 => O1 (cm2 p y w) fun r => Q (.bool r) true s3 else Q (.bool false) true s2 := by
  unfold WE
  simp only [run]
  rcases run cf a env s with _ | ⟨x, f, s1⟩
  · rfl
  · simp only [O3_some]
    rcases run cf b env s1 with _ | ⟨y, g, s2⟩
    · rfl
    · simp only [O3_some]
      rcases cm2 o x y with _ | _ | _
      · rfl
      · rfl
      · simp only [O1_some, if_true]
        rcases run cf c env s2 with _ | ⟨w, g, s3⟩
        · rfl
        · simp only [O3_some]
          cases cm2 p y w <;> rfl
theorem we_isN {a : CE} : WE cf (.isN a) env s Q = WE cf a env s fun x _ s1 => Q (.bool (isNone x)) true s1 := by
  unfold WE
  simp only [run]
  rcases run cf a env s with _ | ⟨x, f, s1⟩ <;> rfl
theorem we_notN {a : CE} : WE cf (.notN a) env s Q = WE cf a env s fun x _ s1 => Q (.bool (!isNone x)) true s1 := by
  unfold WE
  simp only [run]
  rcases run cf a env s with _ | ⟨x, f, s1⟩ <;> rfl
theorem we_isT {a : CE} : WE cf (.isT a) env s Q = WE cf a env s fun x _ s1 => O1 (asB x) fun b => Q (.bool b) true s1 := by
  unfold WE
  simp only [run]
  rcases run cf a env s with _ | ⟨x, f, s1⟩
  · rfl
  · cases x <;> rfl
theorem we_notT {a : CE} : WE cf (.notT a) env s Q = WE cf a env s fun x _ s1 => O1 (asB x) fun b => Q (.bool (!b)) true s1 := by
  unfold WE
  simp only [run]
  rcases run cf a env s with _ | ⟨x, f, s1⟩
  · rfl
  · cases x <;> rfl
theorem we_not {a : CE} : WE cf (.not a) env s Q = WE cf a env s fun x _ s1 => O1 (asB x) fun b => Q (.bool (!b)) true s1 := by
  unfold WE
  simp only [run]
  rcases run cf a env s with _ | ⟨x, f, s1⟩
  · rfl
  · cases x <;> rfl
theorem we_and {a b : CE} : WE cf (.and a b) env s Q = WE cf a env s fun x _ s1 => O1 (asB x) fun z => if z = true then WE cf b env s1 Q else Q (.bool false) true s1 := by
  unfold WE
  simp only [run]
  rcases run cf a env s with _ | ⟨x, f, s1⟩
  · rfl
  · cases x <;> first | rfl | (rename_i z; cases z <;> rfl)
theorem we_or {a b : CE} : WE cf (.or a b) env s Q = WE cf a env s fun x _ s1 => O1 (asB x) fun z => if z = true then Q (.bool true) true s1 else WE cf b env s1 Q := by
  unfold WE
  simp only [run]
  rcases run cf a env s with _ | ⟨x, f, s1⟩
  · rfl
  · cases x <;> first | rfl | (rename_i z; cases z <;> rfl)
theorem we_ite {c a b : CE} : WE cf (.ite c a b) env s Q = WE cf c env s fun x _ s1 => O1 (asB x) fun z => if z = true then WE cf a env s1 Q else WE cf b env s1 Q := by
  unfold WE
  simp only [run]
  rcases run cf c env s with _ | ⟨x, f, s1⟩
  · rfl
  · cases x <;> first | rfl | (rename_i z; cases z <;> rfl)
theorem we_tup {es : CEs} : WE cf (.tup es) env s Q = WEs cf es env s fun xs fr s1 => fitsLine xs.length = true ∧ Q (.tuple xs) fr s1 := by
  unfold WE WEs
  simp only [run]
  rcases runs cf es env s with _ | ⟨x, f, s1⟩
  · rfl
  · by_cases h : fitsLine x.length = true <;> simp [h]
theorem we_lst {es : CEs} : WE cf (.lst es) env s Q = WEs cf es env s fun xs fr s1 => fitsLine xs.length = true ∧ Q (.list xs) fr s1 := by
  unfold WE WEs
  simp only [run]
  rcases runs cf es env s with _ | ⟨x, f, s1⟩
  · rfl
  · by_cases h : fitsLine x.length = true <;> simp [h]
theorem we_ix {a i : CE} : WE cf (.ix a i) env s Q = WE cf a env s fun x _ s1 => WE cf i env s1 fun y _ s2 => O1 (asI y) fun k => O1 (items? x) fun xs => O1 (ixD xs k) fun d => Q d (frC d) s2 := by
  unfold WE
  simp only [run]
  rcases run cf a env s with _ | ⟨x, f, s1⟩
  · rfl
  · simp only [O3_some]
    rcases run cf i env s1 with _ | ⟨y, g, s2⟩
    · rfl
    · simp only [O3_some]
      cases y <;> first | rfl | skip
      rename_i k
      simp only [asI, O1_some]
      rcases items? x with _ | xs
      · rfl
      · simp only [O1_some]
        cases ixD xs k <;> rfl
def slD (x : D) (l h : Option Int) : Option (D × Bool) := match x with
  | .list xs => some (.list (cutD xs l h), noLs (cutD xs l h))
  | .tuple xs => some (.tuple (cutD xs l h), false)
  | _ => none
theorem we_sl {a : CE} {lo hi : CO} : WE cf (.sl a lo hi) env s Q = WE cf a env s fun x _ s1 => WO cf lo env s1 fun l s2 => WO cf hi env s2 fun h s3 => O2 (slD x l h) fun d fr => Q d fr s3 := by
  unfold WE WO
  simp only [run]
  rcases run cf a env s with _ | ⟨x, f, s1⟩
  · rfl
  · simp only [O3_some]
    rcases runO cf lo env s1 with _ | ⟨l, s2⟩
    · rfl
    · simp only [O2_some]
      rcases runO cf hi env s2 with _ | ⟨h, s3⟩
      · rfl
      · simp only [O2_some]
        cases x <;> rfl
theorem we_rev {a : CE} : WE cf (.rev a) env s Q = WE cf a env s fun x _ s1 => O1 (match x with | .list xs => some xs | _ => none) fun xs => Q (.list xs.reverse) (noLs xs) s1 := by
  unfold WE
  simp only [run]
  rcases run cf a env s with _ | ⟨x, f, s1⟩
  · rfl
  · cases x <;> rfl
theorem we_bi {b : Bi} {e : CE} {es : CEs} : WE cf (.bi b e es) env s Q = WE cf e env s fun x _ s1 => WEs cf es env s1 fun xs _ s2 => O1 (bi1 b (x :: xs)) fun z => Q z (biFr b z) s2 := by
  unfold WE WEs
  simp only [run]
  rcases run cf e env s with _ | ⟨x, f, s1⟩
  · rfl
  · simp only [O3_some]
    rcases runs cf es env s1 with _ | ⟨xs, g, s2⟩
    · rfl
    · simp only [O3_some]
      cases bi1 b (x :: xs) <;> rfl
theorem we_isi {t : Ty} {a : CE} : WE cf (.isi t a) env s Q = WE cf a env s fun x _ s1 => Q (.bool (tyOf t x)) true s1 := by
  unfold WE
  simp only [run]
  rcases run cf a env s with _ | ⟨x, f, s1⟩ <;> rfl
theorem we_call {f : Nat} {es : CEs} : WE cf (.call f es) env s Q = WEs cf es env s fun xs _ s1 => O2 (cf f xs s1) fun z s2 => Q z (frC z) s2 := by
  unfold WE WEs
  simp only [run]
  rcases runs cf es env s with _ | ⟨xs, g, s1⟩
  · rfl
  · simp only [O3_some]
    rcases cf f xs s1 with _ | ⟨z, s2⟩ <;> rfl
theorem we_lc {own : List (Str × Nat)} {tg : CT} {it : CI} {c : CO} {e : CE} : WE cf (.lc own tg it c e) env s Q = WI cf it env s fun ds _ s1 => fitsLine ds.length = true ∧
    O3 (lcGo (lcTurn (fun d => asgT tg d (wipeE env (own.map (·.2)))) (runC cf c) (run cf e)) ds s1) fun xs fr s2 => Q (.list xs) fr s2 := by
  unfold WE WI
  simp only [run]
  rcases runI cf it env s with _ | ⟨ds, f, s1⟩
  · rfl
  · simp only [O3_some]
    by_cases h : fitsLine ds.length = true
    · simp only [h, if_true, true_and]
      rcases lcGo _ ds s1 with _ | ⟨xs, fr, s2⟩ <;> rfl
    · simp [h]
theorem we_sInt {f : SF} : WE cf (.sInt f) env s Q = Q (.int (s.get f)) true s := by simp [WE, run]
theorem we_rl1 {t : Bool} {a : CE} : WE cf (.rl1 t a) env s Q = WE cf a env s fun x _ s1 => O1 (asI x) fun j => okRg 0 j = true ∧ fitsLine j.toNat = true ∧ Q (seqOf t (rangeD 0 j.toNat)) true s1 := by
  unfold WE
  simp only [run]
  rcases run cf a env s with _ | ⟨x, f, s1⟩
  · rfl
  · cases x <;> first | rfl | skip
    rename_i j
    simp only [O3_some, asI, O1_some]
    by_cases h : okRg 0 j = true <;> by_cases h2 : fitsLine j.toNat = true <;> simp [h, h2]
theorem we_rl2 {t : Bool} {a b : CE} : WE cf (.rl2 t a b) env s Q = WE cf a env s fun x _ s1 => O1 (asI x) fun i => WE cf b env s1 fun y _ s2 => O1 (asI y) fun j => okRg i j = true ∧ fitsLine (j - i).toNat = true ∧ Q (seqOf t (rangeD i (j - i).toNat)) true s2 := by
  unfold WE
  simp only [run]
  rcases run cf a env s with _ | ⟨x, f, s1⟩
  · rfl
  · cases x <;> first | rfl | skip
    rename_i i
    simp only [O3_some, asI, O1_some]
    rcases run cf b env s1 with _ | ⟨y, g, s2⟩
    · rfl
    · cases y <;> first | rfl | skip
      rename_i j
      simp only [O3_some, O1_some]
      by_cases h : okRg i j = true <;> by_cases h2 : fitsLine (j - i).toNat = true <;> simp [h, h2]
theorem we_idx {i : Nat} {b : CE} : WE cf (.idx i b) env s Q = WE cf b env s fun d _ s1 => ∃ xs, env[i]? = some (some (.list xs)) ∧ SeqAt.shaped d = true ∧ SeqAt.shaped (.list xs) = true ∧ O1 (fstIx d xs) fun j => Q (.int (j : Nat)) true s1 := by
  unfold WE
  simp only [run]
  rcases run cf b env s with _ | ⟨x, f, s1⟩
  · rfl
  · simp only [O3_some]
    rcases env[i]? with _ | _ | d
    · simp
    · simp
    · cases d <;> try (simp; done)
      rename_i xs
      by_cases h : (SeqAt.shaped x && SeqAt.shaped (.list xs)) = true
      · have h' := (Bool.and_eq_true _ _).mp h
        simp only [h, if_true, Option.some.injEq, PyData.list.injEq, exists_eq_left', h'.1, h'.2, true_and]
        cases fstIx x xs <;> rfl
      · simp only [Bool.not_eq_true] at h
        simp only [h, Bool.false_eq_true, if_false, Option.some.injEq, PyData.list.injEq, exists_eq_left']
        simp only [Bool.and_eq_false_iff] at h
        rcases h with h | h <;> simp [h]
theorem we_sCnt : WE cf .sCnt env s Q = Q (.int s.cells.length) true s := by simp [WE, run]
theorem wc_no {Q : Bool → Src → Prop} : WC cf .no env s Q = Q true s := by simp [WC, runC]
theorem wc_so {e : CE} {Q : Bool → Src → Prop} : WC cf (.so e) env s Q = WE cf e env s fun x _ s1 => O1 (asB x) fun b => Q b s1 := by
  unfold WC WE
  simp only [runC]
  rcases run cf e env s with _ | ⟨x, f, s1⟩
  · rfl
  · cases x <;> rfl
theorem wo_no {Q : Option Int → Src → Prop} : WO cf .no env s Q = Q none s := by simp [WO, runO]
theorem wo_so {e : CE} {Q : Option Int → Src → Prop} : WO cf (.so e) env s Q = WE cf e env s fun x _ s1 => O1 (asI x) fun b => Q (some b) s1 := by
  unfold WO WE
  simp only [runO]
  rcases run cf e env s with _ | ⟨x, f, s1⟩
  · rfl
  · cases x <;> rfl
theorem ws_nil : WEs cf .nil env s Qs = Qs [] true s := by simp [WEs, runs]
theorem ws_cons {e : CE} {r : CEs} : WEs cf (.cons e r) env s Qs = WE cf e env s fun x fr s1 => WEs cf r env s1 fun xs frs s2 => Qs (x :: xs) ((fr || noL x) && frs) s2 := by
  unfold WEs WE
  simp only [runs]
  rcases run cf e env s with _ | ⟨x, f, s1⟩
  · rfl
  · simp only [O3_some]
    rcases runs cf r env s1 with _ | ⟨xs, g, s2⟩ <;> rfl
theorem ws_star {e : CE} {r : CEs} : WEs cf (.star e r) env s Qs = WE cf e env s fun x _ s1 => O1 (items? x) fun ys => WEs cf r env s1 fun xs frs s2 => Qs (ys ++ xs) (noLs ys && frs) s2 := by
  unfold WEs WE
  simp only [runs]
  rcases run cf e env s with _ | ⟨x, f, s1⟩
  · rfl
  · simp only [O3_some]
    rcases items? x with _ | ys
    · rfl
    · simp only [O1_some]
      rcases runs cf r env s1 with _ | ⟨xs, g, s2⟩ <;> rfl
theorem wi_val {e : CE} : WI cf (.val e) env s Qs = WE cf e env s fun x fr s1 => O1 (items? x) fun xs => Qs xs (fr || noL x) s1 := by
  unfold WI WE
  simp only [runI]
  rcases run cf e env s with _ | ⟨x, f, s1⟩
  · rfl
  · simp only [O3_some]
    cases items? x <;> rfl
theorem wi_rg1 {a : CE} : WI cf (.rg1 a) env s Qs = WE cf a env s fun x _ s1 => O1 (asI x) fun j => okRg 0 j = true ∧ Qs (rangeD 0 j.toNat) true s1 := by
  unfold WI WE
  simp only [runI]
  rcases run cf a env s with _ | ⟨x, f, s1⟩
  · rfl
  · cases x <;> first | rfl | skip
    rename_i j
    simp only [O3_some, asI, O1_some]
    by_cases h : okRg 0 j = true <;> simp [h]
theorem wi_rg2 {a b : CE} : WI cf (.rg2 a b) env s Qs = WE cf a env s fun x _ s1 => O1 (asI x) fun i => WE cf b env s1 fun y _ s2 => O1 (asI y) fun j => okRg i j = true ∧ Qs (rangeD i (j - i).toNat) true s2 := by
  unfold WI WE
  simp only [runI]
  rcases run cf a env s with _ | ⟨x, f, s1⟩
  · rfl
  · cases x <;> first | rfl | skip
    rename_i i
    simp only [O3_some, asI, O1_some]
    rcases run cf b env s1 with _ | ⟨y, g, s2⟩
    · rfl
    · cases y <;> first | rfl | skip
      rename_i j
      simp only [O3_some, O1_some]
      by_cases h : okRg i j = true <;> simp [h]
theorem wi_enum {a : CE} : WI cf (.enum a) env s Qs = WE cf a env s fun x fr s1 => O1 (items? x) fun xs => Qs (enumD xs) (fr || noL x) s1 := by
  unfold WI WE
  simp only [runI]
  rcases run cf a env s with _ | ⟨x, f, s1⟩
  · rfl
  · simp only [O3_some]
    cases items? x <;> rfl
theorem wi_zips {a b : CE} : WI cf (.zips a b) env s Qs = WE cf a env s fun x fr s1 => WE cf b env s1 fun y fr2 s2 => O1 (items? x) fun xs => O1 (items? y) fun ys => xs.length = ys.length ∧ Qs (pairs xs ys) ((fr || noL x) && (fr2 || noL y)) s2 := by
  unfold WI WE
  simp only [runI]
  rcases run cf a env s with _ | ⟨x, f, s1⟩
  · rfl
  · simp only [O3_some]
    rcases run cf b env s1 with _ | ⟨y, g, s2⟩
    · rfl
    · simp only [O3_some]
      cases items? x <;> cases items? y <;> first | rfl | skip
      rename_i xs ys
      by_cases h : xs.length = ys.length <;> simp [h]
theorem wi_zip {a b : CE} : WI cf (.zip a b) env s Qs = WE cf a env s fun x fr s1 => WE cf b env s1 fun y fr2 s2 => O1 (items? x) fun xs => O1 (items? y) fun ys => Qs (pairs xs ys) ((fr || noL x) && (fr2 || noL y)) s2 := by
  unfold WI WE
  simp only [runI]
  rcases run cf a env s with _ | ⟨x, f, s1⟩
  · rfl
  · simp only [O3_some]
    rcases run cf b env s1 with _ | ⟨y, g, s2⟩
    · rfl
    · simp only [O3_some]
      cases items? x <;> cases items? y <;> rfl
end
end PV

/-! PV, part Y: statements, loops, comprehensions, in plain Lean. -/
namespace PV
open PySem PySem.Spec
section
variable {cf : CallF} {W : Nat} {st : S} {Q : Fl → S → Prop}
theorem wss_nil : WSs cf W .nil st Q = Q .nx st := by simp [WSs, exs]
theorem wss_cons {a : CS} {r : CSs} : WSs cf W (.cons a r) st Q = WS cf W a st fun fl st1 => match fl with | .nx => WSs cf W r st1 Q | .rt d => Q (.rt d) st1 := by
  unfold WSs WS
  simp only [exs]
  rcases ex cf W a st with _ | ⟨fl, st1⟩
  · rfl
  · cases fl <;> rfl
/-- what is stored is new, or holds no list -/
theorem w_asg {i : Nat} {me : List Nat} {e : CE} (h : WE cf e (vals st.env) st.src fun d fr s => (fr || noL d) = true ∧ Q .nx ⟨st.env.set i (some (d, true)), s⟩) : WS cf W (.asg i me e) st Q := by
  obtain ⟨d, fr, s, hr, hf, q⟩ := O3_of.mp h
  unfold WS
  simp only [ex, forStore, hr, hf, if_true]
  exact q
theorem w_asgT {t : CT} {me : List Nat} {e : CE} (h : WE cf e (vals st.env) st.src fun d fr s => (fr || noL d) = true ∧ O1 (putT t d st.env) fun env => Q .nx ⟨env, s⟩) : WS cf W (.asgT t me e) st Q := by
  obtain ⟨d, fr, s, hr, hf, q⟩ := O3_of.mp h
  obtain ⟨env, hp, q⟩ := O1_of.mp q
  unfold WS
  simp only [ex, forStore, hr, hf, if_true, hp, Option.map_some]
  exact q
theorem w_par {is : List Nat} {es : CEs} (h : WEs cf es (vals st.env) st.src fun ds fr s => fr = true ∧ fitsLine ds.length = true ∧ O1 (putAll is ds st.env) fun env => Q .nx ⟨env, s⟩) : WS cf W (.par is es) st Q := by
  obtain ⟨ds, fr, s, hr, hf, hz, q⟩ := O3_of.mp h
  obtain ⟨env, hp, q⟩ := O1_of.mp q
  unfold WS
  simp only [ex, hr, hf, hz, Bool.and_self, if_true, hp, Option.map_some]
  exact q
theorem w_setx {i : Nat} {x e : CE} (h : WE cf e (vals st.env) st.src fun d fr s => (fr || noL d) = true ∧ WE cf x (vals st.env) s fun y _ s2 => O1 (asI y) fun k => ∃ xs j, st.env[i]? = some (some (.list xs, true)) ∧ L2.ixN xs.length k = some j ∧ Q .nx ⟨st.env.set i (some (.list (xs.set j d), true)), s2⟩) : WS cf W (.setx i x e) st Q := by
  obtain ⟨d, fr, s, hr, hf, q1⟩ := O3_of.mp h
  obtain ⟨y, fy, s2, hr2, q2⟩ := O3_of.mp q1
  obtain ⟨k, hk, xs, j, he, hj, q⟩ := O1_of.mp q2
  clear q1 q2
  cases y <;> first | (cases hk; done) | skip
  cases hk
  unfold WS
  simp only [ex, hr, hf, if_true, hr2, he, hj]
  exact q
theorem w_aug {i : Nat} {o : Op2} {e : CE} (h : ∃ a oa, st.env[i]? = some (some (.int a, oa)) ∧ WE cf e (vals st.env) st.src fun y _ s => O1 (asI y) fun b => O1 (iop2 o a b) fun d => Q .nx ⟨st.env.set i (some (.int d, true)), s⟩) : WS cf W (.aug i o e) st Q := by
  obtain ⟨a, oa, he, h⟩ := h
  obtain ⟨y, fy, s2, hr2, q1⟩ := O3_of.mp h
  obtain ⟨k, hk, q2⟩ := O1_of.mp q1
  obtain ⟨d, hd, q⟩ := O1_of.mp q2
  clear q1 q2
  cases y <;> first | (cases hk; done) | skip
  cases hk
  unfold WS
  simp only [ex, he, hr2, hd]
  exact q
theorem w_augx {i : Nat} {x e : CE} {o : Op2} (h : WE cf x (vals st.env) st.src fun y _ s => O1 (asI y) fun k => ∃ xs j a, st.env[i]? = some (some (.list xs, true)) ∧ L2.ixN xs.length k = some j ∧ 0 ≤ k ∧ k < 2 ^ 62 ∧ xs[j]? = some (.int a) ∧
    WE cf e (vals st.env) s fun z _ s2 => O1 (asI z) fun b => O1 (iop2 o a b) fun d => Q .nx ⟨st.env.set i (some (.list (xs.set j (.int d)), true)), s2⟩) : WS cf W (.augx i x o e) st Q := by
  obtain ⟨y, fy, s, hr, q1⟩ := O3_of.mp h
  obtain ⟨k, hk, xs, j, a, he, hj, h0, h1, hx, q2⟩ := O1_of.mp q1
  obtain ⟨z, fz, s2, hr2, q3⟩ := O3_of.mp q2
  obtain ⟨b, hb, q4⟩ := O1_of.mp q3
  obtain ⟨d, hd, q⟩ := O1_of.mp q4
  clear q1 q2 q3 q4
  cases y <;> first | (cases hk; done) | skip
  cases hk
  cases z <;> first | (cases hb; done) | skip
  cases hb
  unfold WS
  simp only [ex, hr, he, hj, decide_eq_true h0, decide_eq_true h1, Bool.and_self, if_true, hx, hr2, hd]
  exact q
theorem w_append {i : Nat} {e : CE} (h : ∃ xs, st.env[i]? = some (some (.list xs, true)) ∧ WE cf e (vals st.env) st.src fun d fr s => (fr || noL d) = true ∧ fitsLine (xs.length + 1) = true ∧ Q .nx ⟨st.env.set i (some (.list (xs ++ [d]), true)), s⟩) : WS cf W (.append i e) st Q := by
  obtain ⟨xs, he, h⟩ := h
  obtain ⟨d, fr, s, hr, hf, hz, q⟩ := O3_of.mp h
  unfold WS
  simp only [ex, he, hr, hf, hz, Bool.and_self, if_true]
  exact q
theorem w_parM {is me : List Nat} {es : CEs} {P : List D → Src → Prop} (h1 : WEs cf es (vals st.env) st.src fun ds _ s => fitsLine ds.length = true ∧ P ds s) (h2 : WEs cf es (mask me (vals st.env)) st.src fun ds _ s => fitsLine ds.length = true ∧ P ds s)
    (q : ∀ ds s, P ds s → (O1 (putAll is ds st.env) fun env => Q .nx ⟨env, s⟩) ∧ O1 (putAllM is ds (frz me st.env)) fun env => Q .nx ⟨env, s⟩) : WS cf W (.parM is me es) st Q := by
  obtain ⟨ds, fr, s, hr, hz, p⟩ := O3_of.mp h1
  obtain ⟨ds2, fr2, s2, hr2, hz2, p2⟩ := O3_of.mp h2
  unfold WS
  simp only [ex, hr]
  cases fr with
  | true =>
    obtain ⟨env, hp, q⟩ := O1_of.mp (q ds s p).1
    simp only [hz, if_true, hp, Option.map_some]
    exact q
  | false =>
    obtain ⟨env, hp, q⟩ := O1_of.mp (q ds2 s2 p2).2
    simp only [Bool.false_eq_true, if_false, hr2, hz2, if_true, hp, Option.map_some]
    exact q
/-- .. all new -/
theorem w_parF {is me : List Nat} {es : CEs} (h : WEs cf es (vals st.env) st.src fun ds fr s => fr = true ∧ fitsLine ds.length = true ∧ O1 (putAll is ds st.env) fun env => Q .nx ⟨env, s⟩) : WS cf W (.parM is me es) st Q := by
  obtain ⟨ds, fr, s, hr, hf, hz, q⟩ := O3_of.mp h
  obtain ⟨env, hp, q⟩ := O1_of.mp q
  unfold WS
  simp only [ex, hr, hf, hz, if_true, hp, Option.map_some]
  exact q
theorem w_extend {i : Nat} {e : CE} (h : ∃ xs, st.env[i]? = some (some (.list xs, true)) ∧ WE cf e (vals st.env) st.src fun d fr s => ∃ ys, d = .list ys ∧ (fr || noLs ys) = true ∧ fitsLine (xs.length + ys.length) = true ∧ Q .nx ⟨st.env.set i (some (.list (xs ++ ys), true)), s⟩) : WS cf W (.extend i e) st Q := by
  obtain ⟨xs, he, h⟩ := h
  obtain ⟨d, fr, s, hr, ys, rfl, hf, hz, q⟩ := O3_of.mp h
  unfold WS
  simp only [ex, he, hr, hf, hz, Bool.and_self, if_true]
  exact q
theorem w_parX {ts : List (Nat × CO)} {es : CEs} (h : WEs cf es (vals st.env) st.src fun ds fr s => fr = true ∧ fitsLine ds.length = true ∧ O1 (putX cf ts ds ⟨st.env, s⟩) fun st1 => Q .nx st1) : WS cf W (.parX ts es) st Q := by
  obtain ⟨ds, fr, s, hr, hf, hz, q⟩ := O3_of.mp h
  obtain ⟨st1, hp, q⟩ := O1_of.mp q
  unfold WS
  simp only [ex, hr, hf, hz, Bool.and_self, if_true, hp, Option.map_some]
  exact q
theorem putX_nil {st : S} : putX cf [] [] st = some st := rfl
theorem putX_no {i : Nat} {r : List (Nat × CO)} {d : D} {ds : List D} {st : S} : putX cf ((i, .no) :: r) (d :: ds) st = putX cf r ds ⟨st.env.set i (some (d, true)), st.src⟩ := rfl
theorem putX_so {i : Nat} {x : CE} {r : List (Nat × CO)} {d : D} {ds : List D} {st : S} {Q : S → Prop} (h : WE cf x (vals st.env) st.src fun y _ s2 => O1 (asI y) fun k => ∃ xs j, st.env[i]? = some (some (.list xs, true)) ∧ L2.ixN xs.length k = some j ∧ O1 (putX cf r ds ⟨st.env.set i (some (.list (xs.set j d), true)), s2⟩) Q) : O1 (putX cf ((i, .so x) :: r) (d :: ds) st) Q := by
  obtain ⟨y, fy, s2, hr, q1⟩ := O3_of.mp h
  obtain ⟨k, hk, xs, j, he, hj, q⟩ := O1_of.mp q1
  clear q1
  cases y <;> first | (cases hk; done) | skip
  cases hk
  simp only [putX, hr, he, hj]
  exact q
theorem w_popT {t : CT} {i : Nat} (h : ∃ xs d, st.env[i]? = some (some (.list xs, true)) ∧ noLs xs = true ∧ xs.getLast? = some d ∧ O1 (putT t d (st.env.set i (some (.list xs.dropLast, true)))) fun env => Q .nx ⟨env, st.src⟩) : WS cf W (.popT t i .no) st Q := by
  obtain ⟨xs, d, he, hn, hl, q⟩ := h
  obtain ⟨env, hp, q⟩ := O1_of.mp q
  unfold WS
  simp only [ex, he, hn, if_true, hl, hp, Option.map_some]
  exact q
theorem w_popX {t : CT} {i : Nat} {e : CE} (h : WE cf e (vals st.env) st.src fun y _ s => O1 (asI y) fun k => ∃ xs j d, st.env[i]? = some (some (.list xs, true)) ∧ noLs xs = true ∧ okRg k k = true ∧ L2.ixN xs.length k = some j ∧ xs[j]? = some d ∧ O1 (putT t d (st.env.set i (some (.list (xs.eraseIdx j), true)))) fun env => Q .nx ⟨env, s⟩) : WS cf W (.popT t i (.so e)) st Q := by
  obtain ⟨y, fy, s, hr, q1⟩ := O3_of.mp h
  obtain ⟨k, hk, xs, j, d, he, hn, hok, hj, hd, q⟩ := O1_of.mp q1
  obtain ⟨env, hp, q⟩ := O1_of.mp q
  clear q1
  cases y <;> first | (cases hk; done) | skip
  cases hk
  unfold WS
  simp only [ex, he, hn, if_true, hr, hok, hj, hd, hp, Option.map_some]
  exact q
theorem w_mix {own : List (Str × Nat)} {l i f : Nat} (h : ∃ xs, st.env[i]? = some (some (.list xs, true)) ∧ noLs xs = true ∧ xs.length ≤ 10000000 ∧ O2 (mixGo cf f xs.length xs st.src) fun ds s => Q (.rt (.list ds)) ⟨st.env, s⟩) : WS cf W (.retMix own l i f) st Q := by
  obtain ⟨xs, he, hn, hl, h⟩ := h
  obtain ⟨ds, s, hm, q⟩ := O2_of.mp h
  unfold WS
  simp only [ex, he, hn, decide_eq_true hl, Bool.and_self, if_true, hm]
  exact q
theorem w_ifs {c : CE} {a b : CSs} : WS cf W (.ifs c a b) st Q = WE cf c (vals st.env) st.src fun x _ s => O1 (asB x) fun z => if z = true then WSs cf W a ⟨st.env, s⟩ Q else WSs cf W b ⟨st.env, s⟩ Q := by
  unfold WS WE WSs
  simp only [ex]
  rcases run cf c (vals st.env) st.src with _ | ⟨x, f, s1⟩
  · rfl
  · cases x <;> first | rfl | (rename_i z; cases z <;> rfl)
theorem w_ret {e : CE} : WS cf W (.ret e) st Q = WE cf e (vals st.env) st.src fun d _ s => Q (.rt d) ⟨st.env, s⟩ := by
  unfold WS WE
  simp only [ex]
  rcases run cf e (vals st.env) st.src with _ | ⟨x, f, s1⟩ <;> rfl
theorem w_retN : WS cf W .retN st Q = Q (.rt .none) st := by simp [WS, ex]
theorem w_pass : WS cf W .pass st Q = Q .nx st := by simp [WS, ex]
theorem w_drop {e : CE} : WS cf W (.drop e) st Q = WE cf e (vals st.env) st.src fun d _ s => Q .nx ⟨st.env, s⟩ := by
  unfold WS WE
  simp only [ex]
  rcases run cf e (vals st.env) st.src with _ | ⟨x, f, s1⟩ <;> rfl
theorem w_sSet {f : SF} {e : CE} : WS cf W (.sSet f e) st Q = WE cf e (vals st.env) st.src fun d _ s => O1 (asI d) fun i => Q .nx ⟨st.env, s.put f i⟩ := by
  unfold WS WE
  simp only [ex]
  rcases run cf e (vals st.env) st.src with _ | ⟨x, f, s1⟩
  · rfl
  · cases x <;> rfl
theorem w_sPop : WS cf W .sPop st Q = O1 st.src.cells.getLast? fun i => Q .nx ⟨st.env, { st.src with cells := st.src.cells.dropLast, left := i }⟩ := by
  unfold WS
  simp only [ex]
  cases st.src.cells.getLast? <;> rfl

/-! ### loops -/
theorem loop_inv {t : CT} {f : S → Option (Fl × S)} (I : List D → S → Prop) (hs : ∀ d r st, I (d :: r) st → O1 (putT t d st.env) fun env => O2 (f ⟨env, st.src⟩) fun fl st1 => match fl with | .nx => I r st1 | .rt v => Q (.rt v) st1) (hd : ∀ st, I [] st → Q .nx st) :
    ∀ ds st, I ds st → O2 (forLoop t f ds st) Q
  | [], st, h => hd st h
  | d :: r, st, h => by
    obtain ⟨env, hp, q⟩ := O1_of.mp (hs d r st h)
    obtain ⟨fl, st1, hf, q⟩ := O2_of.mp q
    simp only [forLoop, hp, hf]
    cases fl with
    | nx => exact loop_inv I hs hd r st1 q
    | rt v => exact q
theorem w_for {t : CT} {me : List Nat} {it : CI} {b : CSs} (I : List D → S → Prop) (hw : WI cf it (vals st.env) st.src fun ds fr s => fr = true ∧ I ds ⟨st.env, s⟩)
    (hs : ∀ d r st, I (d :: r) st → O1 (putT t d st.env) fun env => WSs cf W b ⟨env, st.src⟩ fun fl st1 => match fl with | .nx => I r st1 | .rt v => Q (.rt v) st1) (hd : ∀ st, I [] st → Q .nx st) : WS cf W (.fort t me it b) st Q := by
  obtain ⟨ds, fr, s, hr, hf, h⟩ := O3_of.mp hw
  have := loop_inv (t := t) (f := fun st => exs cf W b st) I hs hd ds _ h
  unfold WS
  simp only [ex, forWalk, hr, hf, if_true]
  exact this
theorem while_inv {c : S → Option (Bool × S)} {f : S → Option (Fl × S)} (I : Nat → S → Prop) (hs : ∀ n st, I n st → O2 (c st) fun b st1 => if b = true then O2 (f st1) fun fl st2 => (match fl with | .nx => ∃ m, m < n ∧ I m st2 | .rt v => Q (.rt v) st2) else Q .nx st1) :
    ∀ n m st, n < m → I n st → O2 (whLoop c f m st) Q := by
  intro n
  induction n using Nat.strongRecOn with
  | ind n ih =>
    intro m st hm h
    cases m with
    | zero => omega
    | succ m =>
      obtain ⟨b, st1, hc, q⟩ := O2_of.mp (hs n st h)
      cases b with
      | false =>
        simp only [whLoop, hc]
        exact q
      | true =>
        simp only [if_true] at q
        obtain ⟨fl, st2, hf, q⟩ := O2_of.mp q
        simp only [whLoop, hc, hf]
        cases fl with
        | rt v => exact q
        | nx =>
          obtain ⟨k, hk, q⟩ := q
          exact ih k hk m st2 (by omega) q
theorem w_wh {c : CE} {b : CSs} (I : Nat → S → Prop) (n : Nat) (hn : n < W + st.src.cells.length) (h0 : I n st)
    (hs : ∀ n st, I n st → WE cf c (vals st.env) st.src fun x _ s => O1 (asB x) fun z => if z = true then WSs cf W b ⟨st.env, s⟩ fun fl st2 => (match fl with | .nx => ∃ m, m < n ∧ I m st2 | .rt v => Q (.rt v) st2) else Q .nx ⟨st.env, s⟩) : WS cf W (.wh c b) st Q := by
  unfold WS
  simp only [ex]
  refine while_inv I (fun n st h => ?_) n _ st hn h0
  obtain ⟨x, fr, s, hr, q1⟩ := O3_of.mp (hs n st h)
  obtain ⟨z, hz, q⟩ := O1_of.mp q1
  clear q1
  cases x <;> first | (cases hz; done) | skip
  cases hz
  simp only [hr]
  exact q

/-! ### comprehensions -/
inductive All2 {α β : Type} (P : α → β → Prop) : List α → List β → Prop
  | nil : All2 P [] []
  | cons {a : α} {b : β} {as : List α} {bs : List β} : P a b → All2 P as bs → All2 P (a :: as) (b :: bs)
theorem All2.len {α β : Type} {P : α → β → Prop} : ∀ {as : List α} {bs : List β}, All2 P as bs → as.length = bs.length
  | _, _, .nil => rfl
  | _, _, .cons _ h => by simp [All2.len h]
def WT (f : D → Src → Option (Option (D × Bool) × Src)) (d : D) (s : Src) (Qy : D → Bool → Src → Prop) (Qn : Src → Prop) : Prop := O2 (f d s) fun o s1 => match o with | some (x, fr) => Qy x fr s1 | none => Qn s1
theorem wt_turn {g : D → Option Env} {c : CO} {e : CE} {d : D} {s : Src} {Qy : D → Bool → Src → Prop} {Qn : Src → Prop} : WT (lcTurn g (runC cf c) (run cf e)) d s Qy Qn = O1 (g d) fun env => WC cf c env s fun b s1 => if b = true then WE cf e env s1 Qy else Qn s1 := by
  unfold WT WC WE
  simp only [lcTurn]
  rcases g d with _ | env
  · rfl
  · simp only [O1_some]
    rcases runC cf c env s with _ | ⟨b, s1⟩
    · rfl
    · simp only [O2_some]
      cases b with
      | false => rfl
      | true =>
        simp only [if_true]
        rcases run cf e env s1 with _ | ⟨x, fr, s2⟩ <;> rfl
/-- each turn gives something with P, all new -/
theorem lc_rel {f : D → Src → Option (Option (D × Bool) × Src)} (P : D → D → Prop) : ∀ {ds : List D} {s : Src}, (∀ d ∈ ds, ∀ s, WT f d s (fun x fr _ => P d x ∧ (fr || noL x) = true) fun _ => False) → ∃ xs s', lcGo f ds s = some (xs, true, s') ∧ All2 P ds xs
  | [], s, _ => ⟨[], s, rfl, .nil⟩
  | d :: r, s, h => by
    obtain ⟨o, s1, hf, q⟩ := O2_of.mp (h d List.mem_cons_self s)
    cases o with
    | none => exact q.elim
    | some p =>
      obtain ⟨x, fr⟩ := p
      obtain ⟨xs, s', e, a⟩ := lc_rel (f := f) P (ds := r) (s := s1) fun d hd => h d (List.mem_cons_of_mem _ hd)
      refine ⟨x :: xs, s', ?_, .cons q.1 a⟩
      simp only [lcGo, hf, e, q.2, Bool.and_true]
/-- a turn that is a function, with a test -/
theorem lc_fun {f : D → Src → Option (Option (D × Bool) × Src)} (g : D → D) (p : D → Bool) : ∀ {ds : List D} {s : Src}, (∀ d ∈ ds, WT f d s (fun x fr s' => p d = true ∧ x = g d ∧ (fr || noL x) = true ∧ s' = s) fun s' => p d = false ∧ s' = s) → lcGo f ds s = some ((ds.filter p).map g, true, s)
  | [], s, _ => rfl
  | d :: r, s, h => by
    obtain ⟨o, s1, hf, q⟩ := O2_of.mp (h d List.mem_cons_self)
    have ih := lc_fun (f := f) g p (ds := r) (s := s) fun d hd => h d (List.mem_cons_of_mem _ hd)
    cases o with
    | none =>
      obtain ⟨hp, rfl⟩ := q
      simp only [lcGo, hf, ih]
      rw [List.filter_cons_of_neg (by simp [hp])]
    | some z =>
      obtain ⟨x, fr⟩ := z
      obtain ⟨hp, rfl, hfr, rfl⟩ := q
      simp only [lcGo, hf, ih, hfr, Bool.and_true]
      rw [List.filter_cons_of_pos hp, List.map_cons]
theorem lc_map {f : D → Src → Option (Option (D × Bool) × Src)} (g : D → D) {ds : List D} {s : Src} (h : ∀ d ∈ ds, WT f d s (fun x fr s' => x = g d ∧ (fr || noL x) = true ∧ s' = s) fun _ => False) : lcGo f ds s = some (ds.map g, true, s) := by
  have := lc_fun (f := f) g (fun _ => true) (ds := ds) (s := s) fun d hd => (h d hd).mono fun o s1 q => by
    cases o with
    | none => exact q.elim
    | some z => exact ⟨rfl, q⟩
  rw [this, List.filter_eq_self.mpr (fun _ _ => rfl)]
end
/-! ### calls -/
section
variable {T : List DefC} {W : Nat}
theorem call_ok {k i : Nat} {xs : List D} {s : Src} {d : DefC} {Q : D → Src → Prop} (hd : T[i]? = some d) (hl : (if d.fi.hs then 1 else 0) + xs.length = d.fi.ps.length)
    (h : WSs (callK T W k) W d.body ⟨entry d xs, s⟩ fun fl st => match fl with | .nx => Q .none st.src | .rt v => Q v st.src) : O2 (callK T W (k + 1) i xs s) Q := by
  obtain ⟨fl, st, he, q⟩ := O2_of.mp h
  simp only [callK, hd]
  rw [if_pos hl, he]
  cases fl with
  | nx => exact q
  | rt v => exact q
end
end PV

/-! PV, part Z: data that may be compared and shown. -/
namespace PV
open PySem PySem.Spec
mutual
/-- numbers, none, truth values, in lists and tuples -/
def plain : D → Bool
  | .none | .bool _ => true
  | .int i => decide (i.natAbs.log2 < 1920)
  | .str x => decide (x = ("0" : Str)) || decide (x = ("1" : Str))
  | .dict _ => false
  | .list xs | .tuple xs => plains xs
def plains : List D → Bool
  | [] => true
  | x :: r => plain x && plains r
end
mutual
/-- no fewer than the signs of the text -/
def sz : D → Nat
  | .none => 4
  | .bool _ => 5
  | .int i => i.natAbs.log2 + 2
  | .str _ => 3
  | .dict _ => 0
  | .list xs | .tuple xs => szs xs + 3
def szs : List D → Nat
  | [] => 0
  | x :: r => sz x + 2 + szs r
end
theorem textFrom_le : ∀ (ts : List Str) (k : Nat) (acc : Str), (textFrom k acc ts).length ≤ acc.length + piled ts
  | [], _, acc => by show acc.length ≤ _; omega
  | t :: r, k, acc => by
    have h := textFrom_le r (k + 1) (acc ++ (if k > 0 then ", " else "" : String) ++ t)
    have e : (acc ++ (if k > 0 then ", " else "" : String) ++ t).length ≤ acc.length + 2 + t.length := by
      rw [strLen_append, strLen_append]
      split
      · show acc.length + 2 + t.length ≤ _; omega
      · show acc.length + 0 + t.length ≤ _; omega
    rw [piled_cons]
    show (textFrom (k + 1) (acc ++ (if k > 0 then ", " else "" : String) ++ t) r).length ≤ _
    omega
theorem plain_str {x : Str} (h : plain (.str x) = true) : x = ("0" : Str) ∨ x = ("1" : Str) := by simpa [plain] using h
mutual
theorem shown_le : ∀ {d : D}, plain d = true → d.shown.length ≤ sz d
  | .none, _ => by simp only [PyData.shown, sz]; decide
  | .bool b, _ => by cases b <;> simp only [PyData.shown, sz] <;> decide
  | .int i, h => by
    simp only [PyData.shown, sz]
    rw [PySem.ofString_length]
    exact int_text_length_le (k := i.natAbs.log2 + 1) (Nat.succ_pos _) (Nat.lt_succ_self _)
  | .str x, h => by
    rcases plain_str h with rfl | rfl <;> simp only [PyData.shown, sz] <;> decide +kernel
  | .dict _, h => by simp [plain] at h
  | .list xs, h => by
    simp only [PyData.shown, sz, listText]
    have h1 := shownAll_le (xs := xs) (by simpa [plain] using h)
    have h2 := textFrom_le (PyData.shownAll xs) 0 "["
    rw [strLen_append]
    have e1 : (("[" : String) : Str).length = 1 := rfl
    have e2 : (("]" : String) : Str).length = 1 := rfl
    omega
  | .tuple xs, h => by
    simp only [PyData.shown, sz, tupleText]
    have h1 := shownAll_le (xs := xs) (by simpa [plain] using h)
    rw [strLen_append, strLen_append]
    have e1 : (("(" : String) : Str).length = 1 := rfl
    have e3 : ((if (PyData.shownAll xs).length == 1 then ",)" else ")" : String) : Str).length ≤ 2 := by split <;> decide
    have h2 : (Str.join ", " (PyData.shownAll xs)).length ≤ piled (PyData.shownAll xs) := by
      by_cases hn : PyData.shownAll xs = []
      · rw [hn]; decide
      · have := join_length_add _ hn
        omega
    omega
theorem shownAll_le : ∀ {xs : List D}, plains xs = true → piled (PyData.shownAll xs) ≤ szs xs
  | [], _ => by simp only [PyData.shownAll, szs]; decide
  | x :: r, h => by
    simp only [PyData.shownAll, szs]
    have h' : plain x = true ∧ plains r = true := by simpa [plains] using h
    have h1 := shown_le h'.1
    have h2 := shownAll_le h'.2
    rw [piled_cons]
    omega
end
mutual
theorem plain_lay : ∀ {d : D}, plain d = true → d.canLay0 = true ∧ d.showable = true ∧ d.hasDict = false
  | .none, _ => by simp [PyData.canLay0, PyData.showable, PyData.hasDict]
  | .bool b, _ => by simp [PyData.canLay0, PyData.showable, PyData.hasDict]
  | .int i, h => by simpa [plain, PyData.canLay0, PyData.showable, PyData.hasDict] using h
  | .str x, h => by
    simp only [PyData.canLay0, PyData.showable, PyData.hasDict]
    rcases plain_str h with rfl | rfl <;> decide +kernel
  | .dict _, h => by simp [plain] at h
  | .list xs, h => by simpa only [PyData.canLay0, PyData.showable, PyData.hasDict] using plains_lay (xs := xs) (by simpa [plain] using h)
  | .tuple xs, h => by simpa only [PyData.canLay0, PyData.showable, PyData.hasDict] using plains_lay (xs := xs) (by simpa [plain] using h)
theorem plains_lay : ∀ {xs : List D}, plains xs = true → PyData.canLayAll0 xs = true ∧ PyData.showableAll xs = true ∧ PyData.hasDictAll xs = false
  | [], _ => by simp [PyData.canLayAll0, PyData.showableAll, PyData.hasDictAll]
  | x :: r, h => by
    have h' : plain x = true ∧ plains r = true := by simpa [plains] using h
    obtain ⟨a1, a2, a3⟩ := plain_lay h'.1
    obtain ⟨b1, b2, b3⟩ := plains_lay h'.2
    simp [PyData.canLayAll0, PyData.showableAll, PyData.hasDictAll, a1, a2, a3, b1, b2, b3]
end
theorem shaped_of {d : D} (h : plain d = true) (hd : d.depth ≤ 60) : SeqAt.shaped d = true := by
  unfold SeqAt.shaped
  rw [(plain_lay h).1]
  simp
  omega
theorem reprOk_of {d : D} (h : plain d = true) (hd : d.depth ≤ 60) (hz : sz d ≤ sizeLine) : reprOk d = true := by
  unfold reprOk fitsLine
  obtain ⟨_, a2, a3⟩ := plain_lay h
  have := shown_le h
  simp [a2, a3]
  omega
mutual
theorem eqv_refl : ∀ {d : D}, plain d = true → PyData.eqv d d = true
  | .none, _ => by simp [PyData.eqv]
  | .bool b, _ => by simp [PyData.eqv]
  | .int i, h => by simp [PyData.eqv]
  | .str _, h => by simp [PyData.eqv]
  | .dict _, h => by simp [plain] at h
  | .list xs, h => by simpa only [PyData.eqv] using eqvAll_refl (xs := xs) (by simpa [plain] using h)
  | .tuple xs, h => by simpa only [PyData.eqv] using eqvAll_refl (xs := xs) (by simpa [plain] using h)
theorem eqvAll_refl : ∀ {xs : List D}, plains xs = true → PyData.eqvAll xs xs = true
  | [], _ => by simp [PyData.eqvAll]
  | x :: r, h => by
    have h' : plain x = true ∧ plains r = true := by simpa [plains] using h
    simp [PyData.eqvAll, eqv_refl h'.1, eqvAll_refl h'.2]
end
theorem szs_le {b : Nat} : ∀ {xs : List D}, (∀ x ∈ xs, sz x + 2 ≤ b) → szs xs ≤ xs.length * b
  | [], _ => by simp [szs]
  | x :: r, h => by
    have h1 := h x List.mem_cons_self
    have h2 := szs_le (xs := r) fun y hy => h y (List.mem_cons_of_mem _ hy)
    simp only [szs, List.length_cons, Nat.add_mul]
    omega
theorem plains_of : ∀ {xs : List D}, (∀ x ∈ xs, plain x = true) → plains xs = true
  | [], _ => by simp [plains]
  | x :: r, h => by
    simp [plains, h x List.mem_cons_self, plains_of (xs := r) fun y hy => h y (List.mem_cons_of_mem _ hy)]
theorem depthAll_le {b : Nat} : ∀ {xs : List D}, (∀ x ∈ xs, x.depth ≤ b) → PyData.depthAll xs ≤ b
  | [], _ => by simp [PyData.depthAll]
  | x :: r, h => by
    have h1 := h x List.mem_cons_self
    have h2 := depthAll_le (xs := r) fun y hy => h y (List.mem_cons_of_mem _ hy)
    simp only [PyData.depthAll]
    omega
theorem noLs_of : ∀ {xs : List D}, (∀ x ∈ xs, noL x = true) → noLs xs = true
  | [], _ => by simp [noLs]
  | x :: r, h => by
    simp [noLs, h x List.mem_cons_self, noLs_of (xs := r) fun y hy => h y (List.mem_cons_of_mem _ hy)]
theorem log2_le {i : Int} {k : Nat} (h : i.natAbs < 2 ^ (k + 1)) : i.natAbs.log2 ≤ k := by
  by_cases h0 : i.natAbs = 0
  · rw [h0]; simp
  · have := (Nat.log2_lt h0).mpr h
    omega
end PV

/-! PV: the drawn numbers. -/
namespace PV
open PySem PySem.Spec
def pickD : DefC := ⟨⟨"_law_pick", ["source", "many"], true⟩, ["source", "many", "left", "mixed"], .cons (.wh (.and (.cmp .gt (.var 1) (.int 1)) (.and (.cmp .lt (.sInt .left) (.int 2)) (.cmp .gt (.sCnt) (.int 0)))) (.cons (.sPop) (.nil))) (.cons (.asg 2 [] (.sInt .left)) (.cons (.ifs (.or (.cmp .lt (.var 1) (.int 2)) (.cmp .gt (.var 2) (.int 1))) (.cons (.sSet .left (.op .fdiv (.var 2) (.bi .max (.int 1) (.cons (.var 1) (.nil))))) (.cons (.ret (.op .mod (.bi .int (.var 2) (.nil)) (.bi .max (.int 1) (.cons (.var 1) (.nil))))) (.nil))) (.nil)) (.cons (.sSet .turn (.op .add (.sInt .turn) (.int 1))) (.cons (.asg 3 [] (.op .mod (.bi .int (.op .add (.sInt .mixed) (.op .mul (.sInt .turn) (.int 104729))) (.nil)) (.int 998244353))) (.cons (.asg 3 [] (.op .mod (.bi .int (.op .add (.op .mul (.var 3) (.var 3)) (.op .mul (.sInt .turn) (.int 17))) (.nil)) (.int 2147483647))) (.cons (.sSet .mixed (.var 3)) (.cons (.ret (.op .mod (.bi .int (.op .fdiv (.var 3) (.int 16)) (.nil)) (.var 1))) (.nil))))))))⟩
theorem vals_nil : vals [] = [] := rfl
theorem vals_cons {o : Option (D × Bool)} {l : EnvS} : vals (o :: l) = o.map (·.1) :: vals l := rfl
theorem getV_zero {o : Option D} {l : Env} : getV (o :: l) 0 = o := by cases o <;> rfl
theorem getV_succ {o : Option D} {l : Env} {n : Nat} : getV (o :: l) (n + 1) = getV l n := by simp [getV]
theorem putT_n {i : Nat} {d : D} {env : EnvS} : putT (.name i) d env = some (env.set i (some (d, noL d))) := by simp only [putT]
theorem putT_t {ts : CTs} {ds : List D} {env : EnvS} : putT (.tup ts) (.tuple ds) env = putTs ts ds env := by simp only [putT]
theorem putTs_n {env : EnvS} : putTs .nil [] env = some env := by simp only [putTs]
theorem putTs_c {t : CT} {r : CTs} {d : D} {ds : List D} {env : EnvS} : putTs (.cons t r) (d :: ds) env = (putT t d env).bind fun e => putTs r ds e := by simp only [putTs]
theorem asgT_n {i : Nat} {d : D} {env : Env} : asgT (.name i) d env = some (env.set i (some d)) := by simp only [asgT, setE]
theorem asgT_t {ts : CTs} {ds : List D} {env : Env} : asgT (.tup ts) (.tuple ds) env = asgTs ts ds env := by simp only [asgT]
theorem asgTs_n {env : Env} : asgTs .nil [] env = some env := by simp only [asgTs]
theorem asgTs_c {t : CT} {r : CTs} {d : D} {ds : List D} {env : Env} : asgTs (.cons t r) (d :: ds) env = (asgT t d env).bind fun e => asgTs r ds e := by simp only [asgTs]
theorem putAll_n {env : EnvS} : PV.putAll [] [] env = some env := by simp only [PV.putAll]
theorem putAll_c {i : Nat} {r : List Nat} {d : D} {ds : List D} {env : EnvS} : PV.putAll (i :: r) (d :: ds) env = PV.putAll r ds (env.set i (some (d, true))) := by simp only [PV.putAll]
theorem wipe_n {env : Env} : wipeE env [] = env := by simp only [wipeE]
theorem wipe_c {env : Env} {v : Nat} {vs : List Nat} : wipeE env (v :: vs) = (wipeE env vs).set v none := by simp only [wipeE]
theorem noL_int {i : Int} : noL (.int i) = true := by simp [noL]
theorem noL_bool {i : Bool} : noL (.bool i) = true := by simp [noL]
theorem noL_tup {xs : List D} : noL (.tuple xs) = noLs xs := by simp [noL]
theorem noLs_nil : noLs [] = true := by simp [noLs]
theorem noLs_cons {x : D} {xs : List D} : noLs (x :: xs) = (noL x && noLs xs) := by simp [noLs]
theorem pints_map : ∀ {l : List Int}, ints? (l.map .int) = some l
  | [] => rfl
  | i :: r => by rw [List.map_cons]; simp only [ints?, pints_map (l := r), Option.map_some]
theorem pbools_map : ∀ {l : List Bool}, bools? (l.map .bool) = some l
  | [] => rfl
  | i :: r => by rw [List.map_cons]; simp only [bools?, pbools_map (l := r), Option.map_some]
theorem noLs_map {α : Type} {f : α → D} : ∀ {l : List α}, (∀ a ∈ l, noL (f a) = true) → noLs (l.map f) = true
  | [], _ => by simp [noLs]
  | a :: r, h => by
    rw [List.map_cons, noLs_cons, h a List.mem_cons_self, noLs_map (l := r) fun b hb => h b (List.mem_cons_of_mem _ hb)]
    rfl
theorem noLs_ints {l : List Int} : noLs (l.map .int) = true := noLs_map fun _ _ => noL_int
theorem ix0 {x : D} {r : List D} : ixD (x :: r) 0 = some x := by simp [ixD, L2.atI, L2.ixN]
theorem ix1 {x y : D} {r : List D} : ixD (x :: y :: r) 1 = some y := by
  unfold ixD L2.atI L2.ixN
  rw [if_pos (by decide), if_pos (by simp; omega)]
  rfl
theorem ix2 {x y z : D} {r : List D} : ixD (x :: y :: z :: r) 2 = some z := by
  unfold ixD L2.atI L2.ixN
  rw [if_pos (by decide), if_pos (by simp; omega)]
  rfl
theorem frC_bool {b : Bool} : frC (.bool b) = true := rfl
theorem frC_tup {l : List D} : frC (.tuple l) = false := rfl
theorem frC_lst {l : List D} : frC (.list l) = false := rfl
theorem biFr_tup {d : D} : biFr .tuple d = false := rfl
theorem biFr_lst {d : D} : biFr .list d = frN d := rfl
theorem biFr_int {d : D} : biFr .int d = frN d := rfl
theorem frN_lst {l : List D} : frN (.list l) = noLs l := rfl
theorem frN_tup {l : List D} : frN (.tuple l) = false := rfl
theorem frN_bool {b : Bool} : frN (.bool b) = true := rfl
theorem cut2 {x y z : D} : cutD [x, y, z] none (some 2) = [x, y] := rfl
theorem slD_t {xs : List D} {l h : Option Int} : slD (.tuple xs) l h = some (.tuple (cutD xs l h), false) := rfl
theorem slD_l {xs : List D} {l h : Option Int} : slD (.list xs) l h = some (.list (cutD xs l h), noLs (cutD xs l h)) := rfl
theorem wss_one {cf : CallF} {W : Nat} {a : CS} {st : S} {Q : Fl → S → Prop} : WSs cf W (.cons a .nil) st Q = WS cf W a st Q := by
  rw [wss_cons]
  congr 1
  funext fl st1
  cases fl <;> simp [wss_nil]
theorem op2_add {a b : Int} : op2 .add (.int a) (.int b) = some (.int (a + b)) := rfl
theorem op2_addT {a b : List D} : op2 .add (.tuple a) (.tuple b) = if fitsLine (a.length + b.length) = true then some (.tuple (a ++ b)) else none := rfl
theorem op2_addL {a b : List D} : op2 .add (.list a) (.list b) = if fitsLine (a.length + b.length) = true then some (.list (a ++ b)) else none := rfl
theorem op2_sub {a b : Int} : op2 .sub (.int a) (.int b) = some (.int (a - b)) := rfl
theorem op2_mul {a b : Int} : op2 .mul (.int a) (.int b) = if mulOk a b = true then some (.int (a * b)) else none := rfl
theorem op2_mulL {a : List D} {k : Int} : op2 .mul (.list a) (.int k) = if (decide (-(2 ^ 63) ≤ k) && decide (k < 2 ^ 63) && fitsLine (a.length * k.toNat)) = true then some (.list (rep a k)) else none := rfl
theorem op2_fdiv {a b : Int} : op2 .fdiv (.int a) (.int b) = if divOk b = true then some (.int (a / b)) else none := rfl
theorem op2_mod {a b : Int} : op2 .mod (.int a) (.int b) = if decide (0 < b) = true then some (.int (a % b)) else none := rfl
theorem cm2_lt {a b : Int} : cm2 .lt (.int a) (.int b) = some (decide (a < b)) := rfl
theorem cm2_le {a b : Int} : cm2 .le (.int a) (.int b) = some (decide (a ≤ b)) := rfl
theorem cm2_gt {a b : Int} : cm2 .gt (.int a) (.int b) = some (decide (b < a)) := rfl
theorem cm2_ge {a b : Int} : cm2 .ge (.int a) (.int b) = some (decide (b ≤ a)) := rfl
theorem cm2_eq {a b : D} : cm2 .eq a b = if (SeqAt.shaped a && SeqAt.shaped b) = true then some (PyData.eqv a b) else none := by cases a <;> rfl
theorem cm2_ne {a b : D} : cm2 .ne a b = if (SeqAt.shaped a && SeqAt.shaped b) = true then some (!PyData.eqv a b) else none := by cases a <;> rfl
theorem shaped_int {i : Int} : SeqAt.shaped (.int i) = true := by simp [SeqAt.shaped, PyData.canLay0, PyData.depth]
theorem eqv_int {a b : Int} : PyData.eqv (.int a) (.int b) = (a == b) := by simp [PyData.eqv]
theorem cm2_eqI {a b : Int} : cm2 .eq (.int a) (.int b) = some (a == b) := by simp [cm2_eq, shaped_int, eqv_int]
theorem cm2_neI {a b : Int} : cm2 .ne (.int a) (.int b) = some (!(a == b)) := by simp [cm2_ne, shaped_int, eqv_int]
theorem bi_lenL {xs : List D} : bi1 .len [.list xs] = some (.int xs.length) := rfl
theorem bi_lenT {xs : List D} : bi1 .len [.tuple xs] = some (.int xs.length) := rfl
theorem bi_tupL {xs : List D} : bi1 .tuple [.list xs] = some (.tuple xs) := rfl
theorem bi_tupT {xs : List D} : bi1 .tuple [.tuple xs] = some (.tuple xs) := rfl
theorem bi_lstL {xs : List D} : bi1 .list [.list xs] = some (.list xs) := rfl
theorem bi_lstT {xs : List D} : bi1 .list [.tuple xs] = some (.list xs) := rfl
theorem bi_int {i : Int} : bi1 .int [.int i] = some (.int i) := rfl
theorem bi_bool {b : Bool} : bi1 .int [.bool b] = some (.int (if b then 1 else 0)) := rfl
theorem bi_abs {i : Int} : bi1 .abs [.int i] = some (.int (if i < 0 then -i else i)) := rfl
theorem bi_max {i j : Int} : bi1 .max [.int i, .int j] = some (.int (if j > i then j else i)) := rfl
theorem bi_min {i j : Int} : bi1 .min [.int i, .int j] = some (.int (if j < i then j else i)) := rfl
theorem bi_sum {xs : List D} : bi1 .sum [.list xs] = (ints? xs).map fun ns => .int ns.sum := rfl
theorem bi_sorted {xs : List D} : bi1 .sorted [.list xs] = if srtOk xs && fitsLine xs.length then some (.list (srtD xs)) else none := rfl
theorem seqOf_l {xs : List D} : seqOf false xs = .list xs := rfl
theorem seqOf_t {xs : List D} : seqOf true xs = .tuple xs := rfl
theorem bi_all {xs : List D} : bi1 .all [.list xs] = (bools? xs).map fun bs => .bool (bs.all id) := rfl
theorem bi_repr {d : D} : bi1 .repr [d] = if reprOk d = true then some (.str d.shown) else none := rfl
theorem iop_a {a b : Int} : iop2 .add a b = some (a + b) := rfl
theorem iop_s {a b : Int} : iop2 .sub a b = some (a - b) := rfl
theorem iop_m {a b : Int} : iop2 .mul a b = if (decide (a.natAbs < 2 ^ 64) || decide (b.natAbs < 2 ^ 64)) = true then some (a * b) else none := rfl
theorem itemsL {xs : List D} : items? (.list xs) = some xs := rfl
theorem itemsT {xs : List D} : items? (.tuple xs) = some xs := rfl
theorem ty1 {i : Int} : tyOf .int (.int i) = true := rfl
theorem ty2 {b : Bool} : tyOf .int (.bool b) = true := rfl
theorem ty3 {b : Bool} : tyOf .bool (.bool b) = true := rfl
theorem ty4 {i : Int} : tyOf .bool (.int i) = false := rfl
theorem ty5 {xs : List D} : tyOf .tuple (.tuple xs) = true := rfl
theorem ty6 {xs : List D} : tyOf .tuple (.list xs) = false := rfl
theorem ty7 {xs : List D} : tyOf .list (.list xs) = true := rfl
theorem ty8 {i : Int} : tyOf .tuple (.int i) = false := rfl
theorem ty9 {xs : List D} : tyOf .int (.tuple xs) = false := rfl
theorem ty10 {xs : List D} : tyOf .int (.list xs) = false := rfl
theorem isN0 : isNone .none = true := rfl
theorem isN1 {i : Int} : isNone (.int i) = false := rfl
theorem isN2 {i : Bool} : isNone (.bool i) = false := rfl
theorem isN3 {i : List D} : isNone (.tuple i) = false := rfl
theorem isN4 {i : List D} : isNone (.list i) = false := rfl
theorem isN5 {i : Str} : isNone (.str i) = false := rfl
theorem wss_seq {cf : CallF} {W : Nat} {a : CS} {r : CSs} {st : S} {Q : Fl → S → Prop} (R : S → Prop) (h : WS cf W a st fun fl st1 => match fl with | .nx => R st1 | .rt d => Q (.rt d) st1) (h2 : ∀ st1, R st1 → WSs cf W r st1 Q) : WSs cf W (.cons a r) st Q := by
  rw [wss_cons]
  exact h.mono fun fl st1 q => by
    cases fl with
    | nx => exact h2 st1 q
    | rt d => exact q
theorem asB_b {b : Bool} : asB (.bool b) = some b := rfl
theorem asI_i {i : Int} : asI (.int i) = some i := rfl
theorem frC_int {i : Int} : frC (.int i) = true := rfl
theorem frN_int {i : Int} : frN (.int i) = true := rfl
theorem divOk_of {b : Int} (h : 0 < b) (h2 : b < 2 ^ 200) : divOk b = true := by
  unfold divOk bigD
  have : b.natAbs < 2 ^ 200 := by omega
  have h3 : (2 : Nat) ^ 200 ≤ 2 ^ 9000 := Nat.pow_le_pow_right (by decide) (by decide)
  simp [h]
  omega
theorem mulOk_r {a b : Int} (h : b.natAbs < 2 ^ 64) : mulOk a b = true := by
  unfold mulOk
  simp [h]
theorem mulOk_l {a b : Int} (h : a.natAbs < 2 ^ 64) : mulOk a b = true := by
  unfold mulOk
  simp [h]
section
variable {T : List DefC} {W k i : Nat} {s : Src} {Q : D → Src → Prop}
theorem pick_ok (hT : T[i]? = some pickD) (hW : 0 < W) {m : Int} (hm : m < 2 ^ 60) (q : ∀ r s', 0 ≤ r → (1 ≤ m → r < m) → (m < 1 → r < 1) → Q (.int r) s') : O2 (callK T W (k + 1) i [.int m] s) Q := by
  refine call_ok hT rfl ?_
  unfold pickD
  refine wss_seq (fun st => st.env = [none, some (.int m, true), none, none]) (w_wh (fun n st => st.env = [none, some (.int m, true), none, none] ∧ n = st.src.cells.length) s.cells.length (by show _ < W + s.cells.length; omega) ⟨rfl, rfl⟩ ?_) ?_
  · rintro n ⟨env, s⟩ ⟨he, rfl⟩
    simp only at he
    subst he
    simp only [wss_nil, wss_cons, w_ifs, w_ret, w_retN, w_pass, w_drop, w_sSet, w_sPop, we_var, we_none, we_tru, we_fls, we_int, we_str, we_op, we_neg, we_cmp, we_chain, we_isN, we_notN, we_isT, we_notT, we_not, we_and, we_or, we_ite, we_tup, we_lst, we_ix, we_sl, we_rev, we_bi, we_isi, we_call, we_lc, we_sInt, we_sCnt, wc_no, wc_so, wo_no, wo_so, ws_nil, ws_cons, ws_star, wi_val, wi_rg1, wi_rg2, wi_enum, wi_zip, wi_zips, we_idx, we_rl1, we_rl2, putX_nil, putX_no, wt_turn, O1_some, O2_some, O3_some, O1_ite, asB_b, asI_i, frC_int, frN_int, vals_nil, vals_cons, getV_zero, getV_succ, asgT_n, asgT_t, asgTs_n, asgTs_c, putT_n, putT_t, putTs_n, putTs_c, putAll_n, putAll_c, wipe_n, wipe_c, List.map_cons, List.map_nil, List.set_cons_succ, List.set_cons_zero, Option.bind_some, Option.map_some, Option.map_none, op2_add, op2_addT, op2_addL, op2_sub, op2_mul, op2_fdiv, op2_mod, cm2_lt, cm2_le, cm2_gt, cm2_ge, bi_lenL, bi_lenT, bi_tupL, bi_tupT, bi_lstL, bi_lstT, bi_int, bi_bool, bi_abs, bi_max, bi_min, bi_sum, bi_all, seqOf_l, seqOf_t, bi_sorted, bi_repr, iop_a, iop_s, iop_m, itemsL, itemsT, ty1, ty2, ty3, ty4, ty5, ty6, ty7, ty8, ty9, ty10, isN0, isN1, isN2, isN3, isN4, isN5, decide_eq_true_eq, if_true, Bool.true_or, Bool.or_true, Bool.true_and, Bool.and_true, Bool.false_eq_true, if_false, noL_int, noL_bool, noL_tup, noLs_nil, noLs_cons, pints_map, pbools_map, Option.map_some, Bool.or_self, Bool.and_self, Bool.or_false, Bool.false_or, noLs_ints, ix0, ix1, ix2, frC_bool, frC_tup, frC_lst, biFr_tup, biFr_lst, biFr_int, frN_lst, frN_tup, frN_bool, cut2, slD_t, slD_l, true_and, and_true]
    have fin : (match Fl.nx with | .nx => ([none, some (PyData.int m, true), none, none] : EnvS) = [none, some (.int m, true), none, none] | .rt d => Q d s) := rfl
    split
    · split
      · split
        · rename_i h
          have hc : s.cells ≠ [] := fun z => by rw [z] at h; simp at h
          rw [List.getLast?_eq_some_getLast hc]
          refine ⟨_, ?_, rfl⟩
          rw [List.length_dropLast]
          have := List.length_pos_iff.mpr hc
          omega
        · trivial
      · trivial
    · trivial
  · rintro ⟨env, s⟩ he
    simp only at he
    subst he
    rw [wss_cons]
    refine w_asg ?_
    have hmul : ∀ a : Int, mulOk a 104729 = true := fun a => mulOk_r (by decide)
    have hmul2 : ∀ a : Int, mulOk a 17 = true := fun a => mulOk_r (by decide)
    have hd16 : divOk 16 = true := divOk_of (by decide) (by decide)
    have hmx : divOk (if m > 1 then m else 1) = true := by
      split
      · exact divOk_of (by omega) (by omega)
      · exact divOk_of (by decide) (by decide)
    have hpos : 0 < (if m > 1 then m else 1) := by split <;> omega
    have fin1 : ∀ (a : Int) s', Q (.int (a % (if m > 1 then m else 1))) s' := fun a s' => by
      have h1 := Int.emod_nonneg a (Int.ne_of_gt hpos)
      have h2 := Int.emod_lt_of_pos a hpos
      refine q _ s' h1 (fun h => ?_) (fun h => ?_)
      · have : (if m > 1 then m else 1) ≤ m := by split <;> omega
        omega
      · have : (if m > 1 then m else 1) = 1 := if_neg (by omega)
        omega
    simp only [wss_nil, wss_cons, w_ifs, w_ret, w_retN, w_pass, w_drop, w_sSet, w_sPop, we_var, we_none, we_tru, we_fls, we_int, we_str, we_op, we_neg, we_cmp, we_chain, we_isN, we_notN, we_isT, we_notT, we_not, we_and, we_or, we_ite, we_tup, we_lst, we_ix, we_sl, we_rev, we_bi, we_isi, we_call, we_lc, we_sInt, we_sCnt, wc_no, wc_so, wo_no, wo_so, ws_nil, ws_cons, ws_star, wi_val, wi_rg1, wi_rg2, wi_enum, wi_zip, wi_zips, we_idx, we_rl1, we_rl2, putX_nil, putX_no, wt_turn, O1_some, O2_some, O3_some, O1_ite, asB_b, asI_i, frC_int, frN_int, vals_nil, vals_cons, getV_zero, getV_succ, asgT_n, asgT_t, asgTs_n, asgTs_c, putT_n, putT_t, putTs_n, putTs_c, putAll_n, putAll_c, wipe_n, wipe_c, List.map_cons, List.map_nil, List.set_cons_succ, List.set_cons_zero, Option.bind_some, Option.map_some, Option.map_none, op2_add, op2_addT, op2_addL, op2_sub, op2_mul, op2_fdiv, op2_mod, cm2_lt, cm2_le, cm2_gt, cm2_ge, bi_lenL, bi_lenT, bi_tupL, bi_tupT, bi_lstL, bi_lstT, bi_int, bi_bool, bi_abs, bi_max, bi_min, bi_sum, bi_all, seqOf_l, seqOf_t, bi_sorted, bi_repr, iop_a, iop_s, iop_m, itemsL, itemsT, ty1, ty2, ty3, ty4, ty5, ty6, ty7, ty8, ty9, ty10, isN0, isN1, isN2, isN3, isN4, isN5, decide_eq_true_eq, if_true, Bool.true_or, Bool.or_true, Bool.true_and, Bool.and_true, Bool.false_eq_true, if_false, noL_int, noL_bool, noL_tup, noLs_nil, noLs_cons, pints_map, pbools_map, Option.map_some, Bool.or_self, Bool.and_self, Bool.or_false, Bool.false_or, noLs_ints, ix0, ix1, ix2, frC_bool, frC_tup, frC_lst, biFr_tup, biFr_lst, biFr_int, frN_lst, frN_tup, frN_bool, cut2, slD_t, slD_l, true_and, and_true, hmx, true_and]
    split
    · exact ⟨hpos, fin1 _ _⟩
    · split
      · exact ⟨hpos, fin1 _ _⟩
      · rename_i h1 h2
        refine w_asg ?_
        simp only [wss_nil, wss_cons, w_ifs, w_ret, w_retN, w_pass, w_drop, w_sSet, w_sPop, we_var, we_none, we_tru, we_fls, we_int, we_str, we_op, we_neg, we_cmp, we_chain, we_isN, we_notN, we_isT, we_notT, we_not, we_and, we_or, we_ite, we_tup, we_lst, we_ix, we_sl, we_rev, we_bi, we_isi, we_call, we_lc, we_sInt, we_sCnt, wc_no, wc_so, wo_no, wo_so, ws_nil, ws_cons, ws_star, wi_val, wi_rg1, wi_rg2, wi_enum, wi_zip, wi_zips, we_idx, we_rl1, we_rl2, putX_nil, putX_no, wt_turn, O1_some, O2_some, O3_some, O1_ite, asB_b, asI_i, frC_int, frN_int, vals_nil, vals_cons, getV_zero, getV_succ, asgT_n, asgT_t, asgTs_n, asgTs_c, putT_n, putT_t, putTs_n, putTs_c, putAll_n, putAll_c, wipe_n, wipe_c, List.map_cons, List.map_nil, List.set_cons_succ, List.set_cons_zero, Option.bind_some, Option.map_some, Option.map_none, op2_add, op2_addT, op2_addL, op2_sub, op2_mul, op2_fdiv, op2_mod, cm2_lt, cm2_le, cm2_gt, cm2_ge, bi_lenL, bi_lenT, bi_tupL, bi_tupT, bi_lstL, bi_lstT, bi_int, bi_bool, bi_abs, bi_max, bi_min, bi_sum, bi_all, seqOf_l, seqOf_t, bi_sorted, bi_repr, iop_a, iop_s, iop_m, itemsL, itemsT, ty1, ty2, ty3, ty4, ty5, ty6, ty7, ty8, ty9, ty10, isN0, isN1, isN2, isN3, isN4, isN5, decide_eq_true_eq, if_true, Bool.true_or, Bool.or_true, Bool.true_and, Bool.and_true, Bool.false_eq_true, if_false, noL_int, noL_bool, noL_tup, noLs_nil, noLs_cons, pints_map, pbools_map, Option.map_some, Bool.or_self, Bool.and_self, Bool.or_false, Bool.false_or, noLs_ints, ix0, ix1, ix2, frC_bool, frC_tup, frC_lst, biFr_tup, biFr_lst, biFr_int, frN_lst, frN_tup, frN_bool, cut2, slD_t, slD_l, true_and, and_true, hmul, true_and]
        refine ⟨by decide, w_asg ?_⟩
        simp only [wss_nil, wss_cons, w_ifs, w_ret, w_retN, w_pass, w_drop, w_sSet, w_sPop, we_var, we_none, we_tru, we_fls, we_int, we_str, we_op, we_neg, we_cmp, we_chain, we_isN, we_notN, we_isT, we_notT, we_not, we_and, we_or, we_ite, we_tup, we_lst, we_ix, we_sl, we_rev, we_bi, we_isi, we_call, we_lc, we_sInt, we_sCnt, wc_no, wc_so, wo_no, wo_so, ws_nil, ws_cons, ws_star, wi_val, wi_rg1, wi_rg2, wi_enum, wi_zip, wi_zips, we_idx, we_rl1, we_rl2, putX_nil, putX_no, wt_turn, O1_some, O2_some, O3_some, O1_ite, asB_b, asI_i, frC_int, frN_int, vals_nil, vals_cons, getV_zero, getV_succ, asgT_n, asgT_t, asgTs_n, asgTs_c, putT_n, putT_t, putTs_n, putTs_c, putAll_n, putAll_c, wipe_n, wipe_c, List.map_cons, List.map_nil, List.set_cons_succ, List.set_cons_zero, Option.bind_some, Option.map_some, Option.map_none, op2_add, op2_addT, op2_addL, op2_sub, op2_mul, op2_fdiv, op2_mod, cm2_lt, cm2_le, cm2_gt, cm2_ge, bi_lenL, bi_lenT, bi_tupL, bi_tupT, bi_lstL, bi_lstT, bi_int, bi_bool, bi_abs, bi_max, bi_min, bi_sum, bi_all, seqOf_l, seqOf_t, bi_sorted, bi_repr, iop_a, iop_s, iop_m, itemsL, itemsT, ty1, ty2, ty3, ty4, ty5, ty6, ty7, ty8, ty9, ty10, isN0, isN1, isN2, isN3, isN4, isN5, decide_eq_true_eq, if_true, Bool.true_or, Bool.or_true, Bool.true_and, Bool.and_true, Bool.false_eq_true, if_false, noL_int, noL_bool, noL_tup, noLs_nil, noLs_cons, pints_map, pbools_map, Option.map_some, Bool.or_self, Bool.and_self, Bool.or_false, Bool.false_or, noLs_ints, ix0, ix1, ix2, frC_bool, frC_tup, frC_lst, biFr_tup, biFr_lst, biFr_int, frN_lst, frN_tup, frN_bool, cut2, slD_t, slD_l, true_and, and_true, hmul2, true_and]
        refine ⟨mulOk_l ?_, by decide, hd16, ?_⟩
        · have h3 := Int.emod_nonneg ((s.put SF.turn (s.get SF.turn + 1)).get SF.mixed + (s.put SF.turn (s.get SF.turn + 1)).get SF.turn * 104729) (show (998244353 : Int) ≠ 0 by decide)
          have h4 := Int.emod_lt_of_pos ((s.put SF.turn (s.get SF.turn + 1)).get SF.mixed + (s.put SF.turn (s.get SF.turn + 1)).get SF.turn * 104729) (show (0 : Int) < 998244353 by decide)
          omega
        · have hm1 : 0 < m := by omega
          refine ⟨hm1, q _ _ (Int.emod_nonneg _ (by omega)) (fun _ => Int.emod_lt_of_pos _ hm1) (fun h => by omega)⟩
/-- one of some things -/
def ofD (p : Nat) : DefC := ⟨⟨"_law_of", ["source", "some"], true⟩, ["source", "some"], .cons (.ret (.ix (.var 1) (.call p (.cons (.bi .len (.var 1) (.nil)) (.nil))))) (.nil)⟩
theorem ixD_nat {xs : List D} {r : Int} (h0 : 0 ≤ r) (h1 : r < xs.length) : ∃ d, ixD xs r = some d ∧ d ∈ xs := by
  unfold ixD L2.atI L2.ixN
  rw [if_pos h0, if_pos h1]
  have : r.toNat < xs.length := by omega
  refine ⟨xs[r.toNat], ?_, List.getElem_mem _⟩
  simp [this]
theorem of_ok {p : Nat} (hp : T[p]? = some pickD) (hT : T[i]? = some (ofD p)) (hW : 0 < W) {xs : List D} {x : D} (hx : items? x = some xs) (hn : xs ≠ []) (hl : xs.length < 2 ^ 50) (q : ∀ d ∈ xs, ∀ s', Q d s') : O2 (callK T W (k + 2) i [x] s) Q := by
  refine call_ok hT rfl ?_
  have hle : bi1 .len [x] = some (.int xs.length) := by
    cases x <;> simp only [items?] at hx <;> first | (cases hx; done) | (cases hx; rfl)
  have hp0 := List.length_pos_iff.mpr hn
  show WSs (callK T W (k + 1)) W (ofD p).body ⟨[none, some (x, noL x)], s⟩ _
  unfold ofD
  simp only [wss_nil, wss_cons, w_ifs, w_ret, w_retN, w_pass, w_drop, w_sSet, w_sPop, we_var, we_none, we_tru, we_fls, we_int, we_str, we_op, we_neg, we_cmp, we_chain, we_isN, we_notN, we_isT, we_notT, we_not, we_and, we_or, we_ite, we_tup, we_lst, we_ix, we_sl, we_rev, we_bi, we_isi, we_call, we_lc, we_sInt, we_sCnt, wc_no, wc_so, wo_no, wo_so, ws_nil, ws_cons, ws_star, wi_val, wi_rg1, wi_rg2, wi_enum, wi_zip, wi_zips, we_idx, we_rl1, we_rl2, putX_nil, putX_no, wt_turn, O1_some, O2_some, O3_some, O1_ite, asB_b, asI_i, frC_int, frN_int, vals_nil, vals_cons, getV_zero, getV_succ, asgT_n, asgT_t, asgTs_n, asgTs_c, putT_n, putT_t, putTs_n, putTs_c, putAll_n, putAll_c, wipe_n, wipe_c, List.map_cons, List.map_nil, List.set_cons_succ, List.set_cons_zero, Option.bind_some, Option.map_some, Option.map_none, op2_add, op2_addT, op2_addL, op2_sub, op2_mul, op2_fdiv, op2_mod, cm2_lt, cm2_le, cm2_gt, cm2_ge, bi_lenL, bi_lenT, bi_tupL, bi_tupT, bi_lstL, bi_lstT, bi_int, bi_bool, bi_abs, bi_max, bi_min, bi_sum, bi_all, seqOf_l, seqOf_t, bi_sorted, bi_repr, iop_a, iop_s, iop_m, itemsL, itemsT, ty1, ty2, ty3, ty4, ty5, ty6, ty7, ty8, ty9, ty10, isN0, isN1, isN2, isN3, isN4, isN5, decide_eq_true_eq, if_true, Bool.true_or, Bool.or_true, Bool.true_and, Bool.and_true, Bool.false_eq_true, if_false, noL_int, noL_bool, noL_tup, noLs_nil, noLs_cons, pints_map, pbools_map, Option.map_some, Bool.or_self, Bool.and_self, Bool.or_false, Bool.false_or, noLs_ints, ix0, ix1, ix2, frC_bool, frC_tup, frC_lst, biFr_tup, biFr_lst, biFr_int, frN_lst, frN_tup, frN_bool, cut2, slD_t, slD_l, true_and, and_true, hle]
  refine pick_ok (m := xs.length) hp hW (by omega) fun r s' h0 h1 h2 => ?_
  obtain ⟨d, hd, hm⟩ := ixD_nat h0 (h1 (by omega))
  simp only [wss_nil, wss_cons, w_ifs, w_ret, w_retN, w_pass, w_drop, w_sSet, w_sPop, we_var, we_none, we_tru, we_fls, we_int, we_str, we_op, we_neg, we_cmp, we_chain, we_isN, we_notN, we_isT, we_notT, we_not, we_and, we_or, we_ite, we_tup, we_lst, we_ix, we_sl, we_rev, we_bi, we_isi, we_call, we_lc, we_sInt, we_sCnt, wc_no, wc_so, wo_no, wo_so, ws_nil, ws_cons, ws_star, wi_val, wi_rg1, wi_rg2, wi_enum, wi_zip, wi_zips, we_idx, we_rl1, we_rl2, putX_nil, putX_no, wt_turn, O1_some, O2_some, O3_some, O1_ite, asB_b, asI_i, frC_int, frN_int, vals_nil, vals_cons, getV_zero, getV_succ, asgT_n, asgT_t, asgTs_n, asgTs_c, putT_n, putT_t, putTs_n, putTs_c, putAll_n, putAll_c, wipe_n, wipe_c, List.map_cons, List.map_nil, List.set_cons_succ, List.set_cons_zero, Option.bind_some, Option.map_some, Option.map_none, op2_add, op2_addT, op2_addL, op2_sub, op2_mul, op2_fdiv, op2_mod, cm2_lt, cm2_le, cm2_gt, cm2_ge, bi_lenL, bi_lenT, bi_tupL, bi_tupT, bi_lstL, bi_lstT, bi_int, bi_bool, bi_abs, bi_max, bi_min, bi_sum, bi_all, seqOf_l, seqOf_t, bi_sorted, bi_repr, iop_a, iop_s, iop_m, itemsL, itemsT, ty1, ty2, ty3, ty4, ty5, ty6, ty7, ty8, ty9, ty10, isN0, isN1, isN2, isN3, isN4, isN5, decide_eq_true_eq, if_true, Bool.true_or, Bool.or_true, Bool.true_and, Bool.and_true, Bool.false_eq_true, if_false, noL_int, noL_bool, noL_tup, noLs_nil, noLs_cons, pints_map, pbools_map, Option.map_some, Bool.or_self, Bool.and_self, Bool.or_false, Bool.false_or, noLs_ints, ix0, ix1, ix2, frC_bool, frC_tup, frC_lst, biFr_tup, biFr_lst, biFr_int, frN_lst, frN_tup, frN_bool, cut2, slD_t, slD_l, true_and, and_true, hx, hd]
  exact q d hm s'
end
/-! ### comprehensions over what is told by a list -/
section
variable {α : Type} {f : D → Src → Option (Option (D × Bool) × Src)} {e : α → D} {s : Src} {Q : List D → Bool → Src → Prop}
theorem lcf (p : α → Bool) (g : α → D) : ∀ {l : List α} {s : Src}, (∀ a ∈ l, WT f (e a) s (fun x fr s' => p a = true ∧ x = g a ∧ (fr || noL x) = true ∧ s' = s) fun s' => p a = false ∧ s' = s) → lcGo f (l.map e) s = some ((l.filter p).map g, true, s)
  | [], s, _ => rfl
  | a :: r, s, h => by
    obtain ⟨o, s1, hf, q⟩ := O2_of.mp (h a List.mem_cons_self)
    have ih := lcf p g (l := r) (s := s) fun d hd => h d (List.mem_cons_of_mem _ hd)
    rw [List.map_cons]
    cases o with
    | none =>
      obtain ⟨hp, rfl⟩ := q
      simp only [lcGo, hf, ih]
      rw [List.filter_cons_of_neg (by simp [hp])]
    | some z =>
      obtain ⟨x, fr⟩ := z
      obtain ⟨hp, rfl, hfr, rfl⟩ := q
      simp only [lcGo, hf, ih, hfr, Bool.and_true]
      rw [List.filter_cons_of_pos hp, List.map_cons]
theorem o3_filter (p : α → Bool) (g : α → D) {l : List α} (h : ∀ a ∈ l, WT f (e a) s (fun x fr s' => p a = true ∧ x = g a ∧ (fr || noL x) = true ∧ s' = s) fun s' => p a = false ∧ s' = s) (q : Q ((l.filter p).map g) true s) : O3 (lcGo f (l.map e) s) Q := by
  rw [lcf p g h]
  exact q
theorem o3_map (g : α → D) {l : List α} (h : ∀ a ∈ l, WT f (e a) s (fun x fr s' => x = g a ∧ (fr || noL x) = true ∧ s' = s) fun _ => False) (q : Q (l.map g) true s) : O3 (lcGo f (l.map e) s) Q := by
  refine o3_filter (fun _ => true) g (fun a ha => (h a ha).mono fun o s1 q => ?_) (by rw [List.filter_eq_self.mpr (fun _ _ => rfl)]; exact q)
  cases o with
  | none => exact q.elim
  | some z => exact ⟨rfl, q⟩
theorem o3_range (g : Nat → D) {lo : Int} {n : Nat} (h : ∀ i < n, WT f (.int (lo + (i : Nat))) s (fun x fr s' => x = g i ∧ (fr || noL x) = true ∧ s' = s) fun _ => False) (q : Q ((List.range n).map g) true s) : O3 (lcGo f (rangeD lo n) s) Q :=
  o3_map (e := fun i : Nat => .int (lo + (i : Nat))) g (fun a ha => h a (List.mem_range.mp ha)) q
theorem lcr (P : α → D → Prop) : ∀ {l : List α} {s : Src}, (∀ a ∈ l, ∀ s, WT f (e a) s (fun x fr _ => P a x ∧ (fr || noL x) = true) fun _ => False) → ∃ xs s', lcGo f (l.map e) s = some (xs, true, s') ∧ All2 P l xs
  | [], s, _ => ⟨[], s, rfl, .nil⟩
  | a :: r, s, h => by
    obtain ⟨o, s1, hf, q⟩ := O2_of.mp (h a List.mem_cons_self s)
    cases o with
    | none => exact q.elim
    | some p =>
      obtain ⟨x, fr⟩ := p
      obtain ⟨xs, s', e1, a1⟩ := lcr P (l := r) (s := s1) fun d hd => h d (List.mem_cons_of_mem _ hd)
      refine ⟨x :: xs, s', ?_, .cons q.1 a1⟩
      rw [List.map_cons]
      simp only [lcGo, hf, e1, q.2, Bool.and_true]
theorem o3_rel (P : α → D → Prop) {l : List α} (h : ∀ a ∈ l, ∀ s, WT f (e a) s (fun x fr _ => P a x ∧ (fr || noL x) = true) fun _ => False) (q : ∀ xs s', All2 P l xs → Q xs true s') : O3 (lcGo f (l.map e) s) Q := by
  obtain ⟨xs, s', h1, h2⟩ := lcr P (s := s) h
  rw [h1]
  exact q xs s' h2
theorem o3_rangeR (P : Nat → D → Prop) {lo : Int} {n : Nat} (h : ∀ i < n, ∀ s, WT f (.int (lo + (i : Nat))) s (fun x fr _ => P i x ∧ (fr || noL x) = true) fun _ => False) (q : ∀ xs s', All2 P (List.range n) xs → Q xs true s') : O3 (lcGo f (rangeD lo n) s) Q :=
  o3_rel (e := fun i : Nat => .int (lo + (i : Nat))) P (fun a ha => h a (List.mem_range.mp ha)) q
end
theorem okRg_of {i j : Int} (h1 : -1000000 ≤ i) (h2 : i ≤ 1000000000) (h3 : -1000000 ≤ j) (h4 : j ≤ 1000000000) : okRg i j = true := by
  unfold okRg
  simp
  omega
theorem fits_of {n : Nat} (h : n ≤ 16000000) : fitsLine n = true := by
  unfold fitsLine
  rw [sizeLine_eq]
  simp
  omega
theorem range_len {lo : Int} {n : Nat} : (rangeD lo n).length = n := by simp [rangeD]
theorem ixD_at {xs : List D} {r : Int} (h0 : 0 ≤ r) (h1 : r < xs.length) : ixD xs r = xs[r.toNat]? := by
  unfold ixD L2.atI L2.ixN
  rw [if_pos h0, if_pos h1]
  rfl
theorem ixD_map {α : Type} {f : α → D} {l : List α} {r : Int} (h0 : 0 ≤ r) (h1 : r < l.length) : ∃ a, l[r.toNat]? = some a ∧ a ∈ l ∧ ixD (l.map f) r = some (f a) ∧ L2.ixN (l.map f).length r = some r.toNat := by
  have hn : r.toNat < l.length := by omega
  refine ⟨l[r.toNat], List.getElem?_eq_getElem hn, List.getElem_mem _, ?_, ?_⟩
  · rw [ixD_at h0 (by simpa using h1), List.getElem?_map, List.getElem?_eq_getElem hn]
    rfl
  · unfold L2.ixN
    rw [if_pos h0, if_pos (by simpa using h1)]
theorem ixD_ints {l : List Int} {r : Int} (h0 : 0 ≤ r) (h1 : r < l.length) : ixD (l.map .int) r = some (.int (l.getD r.toNat 0)) := by
  obtain ⟨a, h2, _, h3, _⟩ := ixD_map (f := PyData.int) h0 h1
  rw [h3, List.getD_eq_getElem?_getD, h2]
  rfl
theorem getD_all {P : Int → Prop} {l : List Int} (h : ∀ x ∈ l, P x) {i : Nat} (hi : i < l.length) : P (l.getD i 0) := by
  rw [List.getD_eq_getElem?_getD, List.getElem?_eq_getElem hi]
  exact h _ (List.getElem_mem _)
/-- many numbers drawn -/
theorem all2_ints {α : Type} {P : Int → Prop} : ∀ {l : List α} {xs : List D}, All2 (fun _ d => ∃ x, P x ∧ d = .int x) l xs → ∃ hs : List Int, xs = hs.map .int ∧ hs.length = l.length ∧ ∀ x ∈ hs, P x
  | _, _, .nil => ⟨[], rfl, rfl, fun _ h => nomatch h⟩
  | _, _, .cons ⟨x, hp, e⟩ t => by
    obtain ⟨hs, e1, e2, e3⟩ := all2_ints t
    refine ⟨x :: hs, by rw [e, e1, List.map_cons], by simp [e2], fun y hy => ?_⟩
    rcases List.mem_cons.mp hy with rfl | hy
    · exact hp
    · exact e3 y hy
theorem ixN_of {n : Nat} {r : Int} (h0 : 0 ≤ r) (h1 : r < n) : L2.ixN n r = some r.toNat := by
  unfold L2.ixN
  rw [if_pos h0, if_pos h1]
theorem mulL_ok {n : Int} {k : Nat} (h : -1000000000 ≤ n) (h2 : n ≤ 1000000000) (h3 : k * n.toNat ≤ 16000000) : (decide (-(2 ^ 63) ≤ n) && decide (n < 2 ^ 63) && fitsLine (k * n.toNat)) = true := by
  rw [fits_of h3, decide_eq_true (by omega), decide_eq_true (by omega)]
  rfl
theorem rep_one {x : D} {n : Int} : rep [x] n = List.replicate n.toNat x := by
  unfold rep
  generalize n.toNat = m
  induction m with
  | zero => rfl
  | succ m ih => rw [List.replicate_succ, List.flatten_cons, ih, List.replicate_succ]; rfl
theorem strOk_app {a b : Str} (h1 : PyData.strOk a = true) (h2 : PyData.strOk b = true) : PyData.strOk (a ++ b) = true := by
  have e : (a ++ b).cps = a.cps ++ b.cps := rfl
  unfold PyData.strOk at *
  rw [e, Array.all_append, h1, h2]
  rfl
theorem strOk_lit {s : String} : PyData.strOk (Str.ofString s) = true := by
  rw [Str.ofString_eq_toList]
  unfold PyData.strOk
  simp only [List.all_toArray, List.all_eq_true, decide_eq_true_eq]
  intro n hn
  obtain ⟨c, _, rfl⟩ := List.mem_map.mp hn
  have := c.valid
  unfold UInt32.isValidChar Nat.isValidChar at this
  show c.val.toNat < _
  omega
theorem strOk_from : ∀ {ts : List Str} {k : Nat} {acc : Str}, PyData.strOk acc = true → (∀ t ∈ ts, PyData.strOk t = true) → PyData.strOk (textFrom k acc ts) = true
  | [], _, _, h, _ => h
  | t :: r, k, acc, h, ht => by
    show PyData.strOk (textFrom (k + 1) (acc ++ (if k > 0 then ", " else "" : String) ++ t) r) = true
    exact strOk_from (strOk_app (strOk_app h strOk_lit) (ht t List.mem_cons_self)) fun u hu => ht u (List.mem_cons_of_mem _ hu)
theorem strOk_join {sp : Str} (hs : PyData.strOk sp = true) : ∀ {ts : List Str}, (∀ t ∈ ts, PyData.strOk t = true) → PyData.strOk (Str.join sp ts) = true
  | [], _ => by
    have : Str.join sp [] = ⟨#[]⟩ := by simp [Str.join, Str.empty]
    rw [this]
    simp [PyData.strOk]
  | [x], h => h x List.mem_cons_self
  | x :: y :: r, h => strOk_app (strOk_app (h x List.mem_cons_self) hs) (strOk_join hs (ts := y :: r) fun t ht => h t (List.mem_cons_of_mem _ ht))
mutual
theorem strOk_shown : ∀ {d : D}, PV.plain d = true → PyData.strOk d.shown = true
  | .none, _ => by simp only [PyData.shown]; exact strOk_lit
  | .bool b, _ => by cases b <;> simp only [PyData.shown] <;> exact strOk_lit
  | .int i, h => by simp only [PyData.shown]; exact strOk_lit
  | .str x, h => by
    simp only [PyData.shown]
    rcases plain_str h with rfl | rfl <;> decide +kernel
  | .dict _, h => by simp [PV.plain] at h
  | .list xs, h => by
    simp only [PyData.shown, listText]
    exact strOk_app (strOk_from strOk_lit (strOk_shownAll (xs := xs) (by simpa [PV.plain] using h))) strOk_lit
  | .tuple xs, h => by
    simp only [PyData.shown, tupleText]
    exact strOk_app (strOk_app strOk_lit (strOk_join strOk_lit (strOk_shownAll (xs := xs) (by simpa [PV.plain] using h)))) strOk_lit
theorem strOk_shownAll : ∀ {xs : List D}, plains xs = true → ∀ t ∈ PyData.shownAll xs, PyData.strOk t = true
  | [], _, t, ht => by simp [PyData.shownAll] at ht
  | x :: r, h, t, ht => by
    have h' : PV.plain x = true ∧ plains r = true := by simpa [plains] using h
    simp only [PyData.shownAll] at ht
    rcases List.mem_cons.mp ht with rfl | ht
    · exact strOk_shown h'.1
    · exact strOk_shownAll h'.2 t ht
end
theorem shaped_str {x : Str} (h : PyData.strOk x = true) : SeqAt.shaped (.str x) = true := by
  simp [SeqAt.shaped, PyData.canLay0, PyData.depth, h]
theorem cm2_neS {d : D} (h : PV.plain d = true) : cm2 .ne (.str d.shown) (.str d.shown) = some false := by
  have : cm2 .ne (.str d.shown) (.str d.shown) = if (SeqAt.shaped (.str d.shown) && SeqAt.shaped (.str d.shown)) = true then some (!PyData.eqv (.str d.shown) (.str d.shown)) else none := rfl
  rw [this, shaped_str (strOk_shown h)]
  simp [PyData.eqv]
theorem law_of {cf : CallF} {W : Nat} {c : CSs} {st : S} (h : WSs cf W c st fun fl _ => fl = .rt (.bool true)) : ∃ st', exs cf W c st = some (.rt (.bool true), st') := by
  obtain ⟨fl, st', he, rfl⟩ := O2_of.mp (by unfold WSs at h; exact h)
  exact ⟨st', he⟩
/-! ### data that is small -/
structure Nice (dp b : Nat) (d : D) : Prop where
  pl : PV.plain d = true
  dp : d.depth ≤ dp
  sz : PV.sz d ≤ b
section
variable {dp b : Nat} {d : D} {xs : List D}
theorem Nice.mono {dp2 b2 : Nat} (h : Nice dp b d) (h1 : dp ≤ dp2) (h2 : b ≤ b2) : Nice dp2 b2 d := ⟨h.pl, Nat.le_trans h.dp h1, Nat.le_trans h.sz h2⟩
theorem nice_int {i : Int} (h : i.natAbs < 2 ^ 20) : Nice 0 21 (.int i) := by
  have := log2_le (i := i) (k := 19) h
  refine ⟨?_, by simp [PyData.depth], ?_⟩
  · simp only [PV.plain, decide_eq_true_eq]; omega
  · simp only [PV.sz]; omega
theorem nice_tup (h : ∀ x ∈ xs, Nice dp b x) : Nice (dp + 1) (xs.length * (b + 2) + 3) (.tuple xs) := by
  refine ⟨?_, ?_, ?_⟩
  · simp only [PV.plain]; exact plains_of fun x hx => (h x hx).pl
  · simp only [PyData.depth]
    have := depthAll_le (b := dp) (xs := xs) fun x hx => (h x hx).dp
    omega
  · simp only [PV.sz]
    have := szs_le (b := b + 2) (xs := xs) fun x hx => by have := (h x hx).sz; omega
    omega
theorem nice_lst (h : ∀ x ∈ xs, Nice dp b x) : Nice (dp + 1) (xs.length * (b + 2) + 3) (.list xs) := by
  obtain ⟨h1, h2, h3⟩ := nice_tup h
  exact ⟨by simpa only [PV.plain] using h1, by simpa only [PyData.depth] using h2, by simpa only [PV.sz] using h3⟩
theorem nice_ints {l : List Int} (h : ∀ x ∈ l, x.natAbs < 2 ^ 20) : Nice 1 (l.length * 23 + 3) (.tuple (l.map .int)) := by
  have := nice_tup (dp := 0) (b := 21) (xs := l.map .int) fun x hx => by
    obtain ⟨i, hi, rfl⟩ := List.mem_map.mp hx
    exact nice_int (h i hi)
  rw [List.length_map] at this
  exact this
theorem Nice.shaped (h : Nice dp b d) (h1 : dp ≤ 60) : SeqAt.shaped d = true := shaped_of h.pl (Nat.le_trans h.dp h1)
theorem Nice.repr (h : Nice dp b d) (h1 : dp ≤ 60) (h2 : b ≤ 16777216) : reprOk d = true := reprOk_of h.pl (Nat.le_trans h.dp h1) (by rw [sizeLine_eq]; exact Nat.le_trans h.sz h2)
end
theorem cm2_neD {d : D} {dp b : Nat} (h : Nice dp b d) (h1 : dp ≤ 60) : cm2 .ne d d = some false := by rw [cm2_ne, h.shaped h1, eqv_refl h.pl]; rfl
theorem cm2_eqD {d : D} {dp b : Nat} (h : Nice dp b d) (h1 : dp ≤ 60) : cm2 .eq d d = some true := by rw [cm2_eq, h.shaped h1, eqv_refl h.pl]; rfl
/-! ### enumerate, zip -/
theorem enumD_mem {α : Type} {f : α → D} {l : List α} {d : D} (h : d ∈ enumD (l.map f)) : ∃ (k : Nat) (a : α), d = .tuple [.int k, f a] ∧ l[k]? = some a := by
  unfold enumD pairs at h
  rw [List.length_map] at h
  obtain ⟨i, hi, e⟩ := List.mem_iff_getElem.mp h
  simp only [List.length_zipWith, List.length_map, List.length_range, Nat.min_self] at hi
  simp only [List.getElem_zipWith, List.getElem_map, List.getElem_range] at e
  exact ⟨i, l[i], e.symm, List.getElem?_eq_getElem hi⟩
theorem enumD_map {α : Type} {f : α → D} {l : List α} : enumD (l.map f) = l.zipIdx.map fun p => .tuple [.int (p.2 : Nat), f p.1] := by
  unfold enumD pairs
  apply List.ext_getElem
  · simp
  · intro i h1 h2
    simp
theorem pairs_map {α β : Type} {f : α → D} {g : β → D} : ∀ {l : List α} {m : List β}, pairs (l.map f) (m.map g) = (l.zip m).map fun p => .tuple [f p.1, g p.2]
  | [], _ => by simp [pairs]
  | _ :: _, [] => by simp [pairs]
  | a :: l, b :: m => by
    have := pairs_map (f := f) (g := g) (l := l) (m := m)
    unfold pairs at this ⊢
    simp [this]
theorem ixD_of {α : Type} {f : α → D} {l : List α} {k : Nat} {a : α} (h : l[k]? = some a) : ixD (l.map f) (k : Int) = some (f a) := by
  obtain ⟨hk, e⟩ := List.getElem?_eq_some_iff.mp h
  rw [ixD_at (by omega) (by simpa using hk), List.getElem?_map]
  simp [h]
theorem zip_mem {α β : Type} {l : List α} {m : List β} {p : α × β} (h : p ∈ l.zip m) : p.1 ∈ l ∧ p.2 ∈ m := List.of_mem_zip (a := p.1) (b := p.2) h
end PV

/-! PV, part Zb: what laws share: things in a drawn order, drawn frames. -/
namespace PV
open PySem PySem.Spec
section
variable {T : List DefC} {W k i : Nat} {s : Src} {Q : D → Src → Prop}
/-! ### stores that share -/
theorem putAllM_n {env : EnvS} : putAllM [] [] env = some env := rfl
theorem putAllM_c {i : Nat} {r : List Nat} {d : D} {ds : List D} {env : EnvS} : putAllM (i :: r) (d :: ds) env = putAllM r ds (env.set i (some (d, noL d))) := rfl
theorem frzC_n {me : List Nat} {i : Nat} : frzC me i [] = [] := rfl
theorem frzC_c {me : List Nat} {i : Nat} {o : Option (D × Bool)} {r : EnvS} : frzC me i (o :: r) = (if me.contains i then o.map fun p => (p.1, p.2 && noL p.1) else o) :: frzC me (i + 1) r := rfl
theorem frz_ev {me : List Nat} {l : EnvS} : frz me l = frzC me 0 l := rfl
theorem maskC_n {me : List Nat} {i : Nat} : maskC me i [] = [] := rfl
theorem maskC_c {me : List Nat} {i : Nat} {o : Option D} {r : Env} : maskC me i (o :: r) = (if me.contains i then o else none) :: maskC me (i + 1) r := rfl
theorem mask_ev {me : List Nat} {l : Env} : mask me l = maskC me 0 l := rfl
theorem inB_c {a i : Nat} {l : List Nat} : (a :: l).contains i = (i == a || l.contains i) := List.contains_cons
theorem inB_n {i : Nat} : ([] : List Nat).contains i = false := rfl

theorem O3.get {α β γ : Type} {m : Option (α × β × γ)} {Q : α → β → γ → Prop} (h : O3 m Q) : ∃ a b c, m = some (a, b, c) ∧ Q a b c := O3_of.mp h
/-- what may share lists: the value from all slots, and from the slots at me alone -/
theorem w_asgM {cf : CallF} {i : Nat} {me : List Nat} {e : CE} {st : S} {Q : Fl → S → Prop} {P : D → Src → Prop} (h1 : WE cf e (vals st.env) st.src fun d _ s => P d s) (h2 : WE cf e (mask me (vals st.env)) st.src fun d _ s => P d s)
    (q : ∀ d s, P d s → Q .nx ⟨st.env.set i (some (d, true)), s⟩ ∧ Q .nx ⟨(frz me st.env).set i (some (d, false)), s⟩) : WS cf W (.asg i me e) st Q := by
  obtain ⟨d, fr, s, hr, p1⟩ := O3_of.mp h1
  obtain ⟨d2, fr2, s2, hr2, p2⟩ := O3_of.mp h2
  unfold WS
  simp only [ex, forStore, hr, hr2]
  by_cases hf : (fr || noL d) = true
  · simp only [hf, if_true]
    exact (q d s p1).1
  · simp only [hf, if_false, Bool.false_eq_true]
    exact (q d2 s2 p2).2
theorem w_forM {cf : CallF} {t : CT} {me : List Nat} {it : CI} {b : CSs} {st : S} {Q : Fl → S → Prop} {P : List D → Src → Prop} (I : List D → S → Prop) (h1 : WI cf it (vals st.env) st.src fun ds _ s => P ds s) (h2 : WI cf it (mask me (vals st.env)) st.src fun ds _ s => P ds s)
    (q : ∀ ds s, P ds s → I ds ⟨st.env, s⟩ ∧ I ds ⟨frz me st.env, s⟩)
    (hs : ∀ d r st, I (d :: r) st → O1 (putT t d st.env) fun env => WSs cf W b ⟨env, st.src⟩ fun fl st1 => match fl with | .nx => I r st1 | .rt v => Q (.rt v) st1) (hd : ∀ st, I [] st → Q .nx st) : WS cf W (.fort t me it b) st Q := by
  obtain ⟨d, fr, s, hr, p1⟩ := O3_of.mp h1
  obtain ⟨d2, fr2, s2, hr2, p2⟩ := O3_of.mp h2
  unfold WS
  simp only [ex, forWalk, hr, hr2]
  by_cases hf : fr = true
  · simp only [hf, if_true]
    exact loop_inv (t := t) (f := fun st => exs cf W b st) I hs hd _ _ (q d s p1).1
  · simp only [hf, if_false, Bool.false_eq_true]
    exact loop_inv (t := t) (f := fun st => exs cf W b st) I hs hd _ _ (q d2 s2 p2).2

/-- a comprehension of which nobody asks whether its things are new -/
theorem lcfA {α : Type} {f : D → Src → Option (Option (D × Bool) × Src)} {e : α → D} (p : α → Bool) (g : α → D) : ∀ {l : List α} {s : Src}, (∀ a ∈ l, WT f (e a) s (fun x _ s' => p a = true ∧ x = g a ∧ s' = s) fun s' => p a = false ∧ s' = s) → ∃ fr, lcGo f (l.map e) s = some ((l.filter p).map g, fr, s)
  | [], s, _ => ⟨true, rfl⟩
  | a :: r, s, h => by
    obtain ⟨o, s1, hf, q⟩ := O2_of.mp (h a List.mem_cons_self)
    rw [List.map_cons]
    cases o with
    | none =>
      obtain ⟨hp, rfl⟩ := q
      obtain ⟨fr, ih⟩ := lcfA p g (l := r) (s := s1) fun d hd => h d (List.mem_cons_of_mem _ hd)
      simp only [lcGo, hf, ih]
      rw [List.filter_cons_of_neg (by simp [hp])]
      exact ⟨_, rfl⟩
    | some z =>
      obtain ⟨x, fr0⟩ := z
      obtain ⟨hp, rfl, rfl⟩ := q
      obtain ⟨fr, ih⟩ := lcfA p g (l := r) (s := s1) fun d hd => h d (List.mem_cons_of_mem _ hd)
      simp only [lcGo, hf, ih]
      rw [List.filter_cons_of_pos hp, List.map_cons]
      exact ⟨_, rfl⟩
theorem o3_filterA {α : Type} {f : D → Src → Option (Option (D × Bool) × Src)} {e : α → D} {s : Src} {Q : List D → Bool → Src → Prop} (p : α → Bool) (g : α → D) {l : List α} (h : ∀ a ∈ l, WT f (e a) s (fun x _ s' => p a = true ∧ x = g a ∧ s' = s) fun s' => p a = false ∧ s' = s) (q : ∀ fr, Q ((l.filter p).map g) fr s) : O3 (lcGo f (l.map e) s) Q := by
  obtain ⟨fr, hh⟩ := lcfA p g h
  rw [hh]
  exact q fr
/-- a loop over things told by a list: what holds after each first part of it -/
theorem w_pre {α : Type} {cf : CallF} {t : CT} {me : List Nat} {it : CI} {b : CSs} {st : S} {Q : Fl → S → Prop} (e : α → D) (R : List α → S → Prop) (l : List α) (hw : WI cf it (vals st.env) st.src fun ds fr s => ds = l.map e ∧ fr = true ∧ R [] ⟨st.env, s⟩)
    (hs : ∀ pre a post st, l = pre ++ a :: post → R pre st → O1 (putT t (e a) st.env) fun env => WSs cf W b ⟨env, st.src⟩ fun fl st1 => match fl with | .nx => R (pre ++ [a]) st1 | .rt v => Q (.rt v) st1) (hd : ∀ st, R l st → Q .nx st) : WS cf W (.fort t me it b) st Q := by
  refine w_for (fun rest st => ∃ pre post, l = pre ++ post ∧ rest = post.map e ∧ R pre st) (hw.mono fun ds fr s ⟨h1, h2, h3⟩ => ⟨h2, [], l, rfl, h1, h3⟩) ?_ ?_
  · rintro d r st ⟨pre, post, h1, h2, h3⟩
    cases post with
    | nil => cases h2
    | cons a post =>
      simp only [List.map_cons, List.cons.injEq] at h2
      obtain ⟨rfl, rfl⟩ := h2
      refine (hs pre a post st h1 h3).mono fun env h => h.mono fun fl st1 h => ?_
      cases fl with
      | nx => exact ⟨pre ++ [a], post, by simpa using h1, rfl, h⟩
      | rt v => exact h
  · rintro st ⟨pre, post, h1, h2, h3⟩
    cases post with
    | nil => exact hd st (by rw [h1, List.append_nil]; exact h3)
    | cons a post => cases h2
theorem frz_one {l : EnvS} {i : Nat} {d : D} {o : Bool} (h : l[i]? = some (some (d, o))) : frz [i] l = l.set i (some (d, o && noL d)) := by
  apply List.ext_getElem?
  intro j
  rw [frz_map, List.getElem?_mapIdx]
  by_cases hj : i = j
  · subst hj
    rw [h, List.getElem?_set_self (List.getElem?_eq_some_iff.mp h).1]
    simp
  · rw [List.getElem?_set_ne hj]
    have : ([i].contains j) = false := by simpa using Ne.symm hj
    simp only [this]
    cases l[j]? <;> rfl
theorem set_same {l : EnvS} {i : Nat} {x : Option (D × Bool)} (h : l[i]? = some x) : l.set i x = l := by
  apply List.ext_getElem?
  intro j
  by_cases hj : i = j
  · subst hj
    rw [List.getElem?_set_self (List.getElem?_eq_some_iff.mp h).1, h]
  · rw [List.getElem?_set_ne hj]
theorem mask_at {l : EnvS} {i : Nat} {d : D} {o : Bool} (h : l[i]? = some (some (d, o))) : (mask [i] (vals l))[i]? = some (some d) := mask_get.mpr ⟨by simp, vals_get.mpr ⟨o, h⟩⟩
/-- a loop over a list that stands in a slot -/
theorem w_preV {α : Type} {cf : CallF} {t : CT} {i : Nat} {b : CSs} {st : S} {Q : Fl → S → Prop} (e : α → D) (R : List α → S → Prop) (l : List α) {d : D} {o : Bool} (hi : st.env[i]? = some (some (d, o))) (hd : items? d = some (l.map e)) (h0 : ∀ o', R [] ⟨st.env.set i (some (d, o')), st.src⟩)
    (hs : ∀ pre a post st, l = pre ++ a :: post → R pre st → O1 (putT t (e a) st.env) fun env => WSs cf W b ⟨env, st.src⟩ fun fl st1 => match fl with | .nx => R (pre ++ [a]) st1 | .rt v => Q (.rt v) st1) (hq : ∀ st, R l st → Q .nx st) : WS cf W (.fort t [i] (.val (.var i)) b) st Q := by
  have hv : (vals st.env)[i]? = some (some d) := vals_get.mpr ⟨o, hi⟩
  have r1 : runI cf (.val (.var i)) (vals st.env) st.src = some (l.map e, frC d || noL d, st.src) := by simp only [runI, run, hv, hd, Option.map_some]
  have r2 : runI cf (.val (.var i)) (mask [i] (vals st.env)) st.src = some (l.map e, frC d || noL d, st.src) := by simp only [runI, run, mask_at hi, hd, Option.map_some]
  refine w_forM (P := fun ds s => ds = l.map e ∧ s = st.src) (fun rest st => ∃ pre post, l = pre ++ post ∧ rest = post.map e ∧ R pre st) ?_ ?_ ?_ ?_ ?_
  · unfold WI
    rw [r1]
    exact ⟨rfl, rfl⟩
  · unfold WI
    rw [r2]
    exact ⟨rfl, rfl⟩
  · rintro ds s ⟨rfl, rfl⟩
    refine ⟨⟨[], l, rfl, rfl, ?_⟩, ⟨[], l, rfl, rfl, ?_⟩⟩
    · have := h0 o
      rw [set_same hi] at this
      exact this
    · rw [frz_one hi]
      exact h0 _
  · rintro d r st ⟨pre, post, h1, h2, h3⟩
    cases post with
    | nil => cases h2
    | cons a post =>
      simp only [List.map_cons, List.cons.injEq] at h2
      obtain ⟨rfl, rfl⟩ := h2
      refine (hs pre a post st h1 h3).mono fun env h => h.mono fun fl st1 h => ?_
      cases fl with
      | nx => exact ⟨pre ++ [a], post, by simpa using h1, rfl, h⟩
      | rt v => exact h
  · rintro st ⟨pre, post, h1, h2, h3⟩
    cases post with
    | nil => exact hq st (by rw [h1, List.append_nil]; exact h3)
    | cons a post => cases h2
/-- a name for what stands in a slot -/
theorem w_asgV {cf : CallF} {i j : Nat} {st : S} {Q : Fl → S → Prop} {d : D} {o : Bool} (hi : st.env[i]? = some (some (d, o))) (q : ∀ o1 o2, Q .nx ⟨(st.env.set i (some (d, o1))).set j (some (d, o2)), st.src⟩) : WS cf W (.asg j [i] (.var i)) st Q := by
  have hv : (vals st.env)[i]? = some (some d) := vals_get.mpr ⟨o, hi⟩
  refine w_asgM (P := fun d' s => d' = d ∧ s = st.src) ?_ ?_ ?_
  · unfold WE
    simp only [run, hv]
    exact ⟨rfl, rfl⟩
  · unfold WE
    simp only [run, mask_at hi]
    exact ⟨rfl, rfl⟩
  · rintro d' s ⟨rfl, rfl⟩
    refine ⟨?_, ?_⟩
    · have := q o true
      rw [set_same hi] at this
      exact this
    · rw [frz_one hi]
      exact q _ _
/-- a loop over a range -/
theorem w_times {cf : CallF} {t : CT} {me : List Nat} {it : CI} {b : CSs} {st : S} {Q : Fl → S → Prop} (R : Nat → S → Prop) (lo : Int) (n : Nat) (hw : WI cf it (vals st.env) st.src fun ds fr s => ds = rangeD lo n ∧ fr = true ∧ R 0 ⟨st.env, s⟩)
    (hs : ∀ i st, i < n → R i st → O1 (putT t (.int (lo + (i : Nat))) st.env) fun env => WSs cf W b ⟨env, st.src⟩ fun fl st1 => match fl with | .nx => R (i + 1) st1 | .rt v => Q (.rt v) st1) (hd : ∀ st, R n st → Q .nx st) : WS cf W (.fort t me it b) st Q := by
  refine w_pre (fun i : Nat => .int (lo + (i : Nat))) (fun pre st => R pre.length st) (List.range n) hw ?_ ?_
  · rintro pre a post st h1 h2
    have hp : a = pre.length ∧ pre.length < n := by
      have h3 := congrArg (fun l => l[pre.length]?) h1
      have hl := congrArg List.length h1
      simp only [List.length_range, List.length_append, List.length_cons] at hl
      simp only [List.getElem?_append_right (Nat.le_refl _), Nat.sub_self, List.getElem?_cons_zero] at h3
      rw [List.getElem?_range (by omega)] at h3
      exact ⟨(Option.some.inj h3).symm, by omega⟩
    obtain ⟨rfl, hp⟩ := hp
    simpa using hs pre.length st hp h2
  · intro st h
    exact hd st (by simpa using h)
theorem fold_app {α β : Type} (h : α → List β) : ∀ (l : List α) (a : List β), l.foldl (fun acc r => acc ++ h r) a = a ++ l.flatMap h
  | [], a => by simp
  | x :: l, a => by simp [fold_app h l]
theorem flat_le {α β : Type} {h : α → List β} {m : Nat} (hh : ∀ a, (h a).length ≤ m) : ∀ (l : List α), (l.flatMap h).length ≤ l.length * m
  | [] => by simp
  | x :: l => by
    have h1 := hh x
    have h2 := flat_le hh l
    simp only [List.flatMap_cons, List.length_append, List.length_cons, Nat.add_mul]
    omega
theorem flat_snoc {α β : Type} {h : α → List β} {l : List α} {a : α} : (l ++ [a]).flatMap h = l.flatMap h ++ h a := by simp
theorem mulT_ok {x : D} {n : Int} (h : -1000 ≤ n) (h2 : n ≤ 1000) : op2 .mul (.tuple [x]) (.int n) = some (.tuple (List.replicate n.toNat x)) := by
  show (if (decide (-1000 ≤ n) && decide (n ≤ 1000) && decide (([x] : List D).length ≤ 1000)) = true then some (PyData.tuple (rep [x] n)) else none) = _
  rw [decide_eq_true h, decide_eq_true h2, rep_one]
  rfl
/-! ### things in a drawn order -/
def mixD (p : Nat) : DefC := ⟨⟨"_law_mixed", ["source", "things"], true⟩, ["source", "things", "rest", "lap"], .cons (.asg 2 [1] (.bi .list (.var 1) (.nil))) (.cons (.retMix [("lap", 3)] 3 2 p) (.nil))⟩
theorem noLs_all {xs : List D} (h : noLs xs = true) : ∀ d ∈ xs, noL d = true := by
  induction xs with
  | nil => intro d hd; cases hd
  | cons x r ih =>
    simp only [noLs, Bool.and_eq_true] at h
    intro d hd
    rcases List.mem_cons.mp hd with rfl | hd
    · exact h.1
    · exact ih h.2 d hd
theorem perm_erase {α : Type} : ∀ {l : List α} {j : Nat} {d : α}, l[j]? = some d → (d :: l.eraseIdx j).Perm l
  | [], _, _, h => by simp at h
  | x :: r, 0, d, h => by
    simp only [List.getElem?_cons_zero, Option.some.injEq] at h
    subst h
    exact .refl _
  | x :: r, j + 1, d, h => by
    have ih := perm_erase (l := r) (j := j) (d := d) (by simpa using h)
    exact (List.Perm.swap x d _).trans (ih.cons x)
theorem mixGo_ok {p : Nat} (hp : T[p]? = some pickD) (hW : 0 < W) : ∀ (n : Nat) (xs : List D) (s : Src) {Q : List D → Src → Prop}, xs.length = n → n < 2 ^ 50 → (∀ ds s', ds.Perm xs → Q ds s') → O2 (mixGo (callK T W (k + 1)) p n xs s) Q
  | 0, xs, s, Q, hl, _, q => by
    have : xs = [] := List.eq_nil_of_length_eq_zero hl
    subst this
    exact q [] s .nil
  | n + 1, xs, s, Q, hl, hn, q => by
    have h := pick_ok (T := T) (k := k) (s := s) (Q := fun d s' => ∃ r s1 d1, d = .int r ∧ s' = s1 ∧ L2.ixN xs.length r = some r.toNat ∧ xs[r.toNat]? = some d1) hp hW (m := xs.length) (by omega) fun r s' h0 h1 h2 => by
      have := h1 (by omega)
      exact ⟨r, s', _, rfl, rfl, by unfold L2.ixN; rw [if_pos h0, if_pos (by omega)], List.getElem?_eq_getElem (by omega)⟩
    obtain ⟨d, s', hc, r, s1, d1, rfl, rfl, hi, hd⟩ := O2_of.mp h
    simp only [mixGo, hc, hi, hd]
    have hlt := (List.getElem?_eq_some_iff.mp hd).1
    have he : xs[r.toNat] = d1 := (List.getElem?_eq_some_iff.mp hd).2
    obtain ⟨ds, s2, hg, pm⟩ := O2_of.mp (mixGo_ok hp hW n (xs.eraseIdx r.toNat) s' (Q := fun ds _ => ds.Perm (xs.eraseIdx r.toNat)) (by rw [List.length_eraseIdx_of_lt hlt]; omega) (by omega) fun ds s' h => h)
    rw [hg]
    refine q (d1 :: ds) s2 ((pm.cons d1).trans ?_)
    exact perm_erase hd
theorem mix_ok {p : Nat} (hp : T[p]? = some pickD) (hT : T[i]? = some (mixD p)) (hW : 0 < W) {xs : List D} {x : D} (hx : items? x = some xs) (hn : noLs xs = true) (hl : xs.length ≤ 10000000) (q : ∀ ds s', ds.Perm xs → Q (.list ds) s') : O2 (callK T W (k + 2) i [x] s) Q := by
  refine call_ok hT rfl ?_
  have hb : bi1 .list [x] = some (.list xs) := by
    cases x <;> simp only [items?] at hx <;> first | (cases hx; done) | (cases hx; rfl)
  show WSs (callK T W (k + 1)) W (mixD p).body ⟨[none, some (x, noL x), none, none], s⟩ _
  unfold mixD
  refine wss_seq (fun st => st.env = [none, some (x, noL x), some (.list xs, true), none]) (w_asg ?_) ?_
  · simp only [wss_nil, wss_one, w_ifs, w_ret, w_retN, w_pass, w_drop, w_sSet, w_sPop, we_var, we_none, we_tru, we_fls, we_int, we_str, we_op, we_neg, we_cmp, we_chain, we_isN, we_notN, we_isT, we_notT, we_not, we_and, we_or, we_ite, we_tup, we_lst, we_ix, we_sl, we_rev, we_bi, we_isi, we_call, we_lc, we_sInt, we_sCnt, wc_no, wc_so, wo_no, wo_so, ws_nil, ws_cons, ws_star, wi_val, wi_rg1, wi_rg2, wi_enum, wi_zip, wi_zips, we_idx, we_rl1, we_rl2, putX_nil, putX_no, wt_turn, O1_some, O2_some, O3_some, O1_ite, asB_b, asI_i, frC_int, frN_int, vals_nil, vals_cons, getV_zero, getV_succ, asgT_n, asgT_t, asgTs_n, asgTs_c, putT_n, putT_t, putTs_n, putTs_c, putAll_n, putAll_c, wipe_n, wipe_c, List.map_cons, List.map_nil, List.set_cons_succ, List.set_cons_zero, Option.bind_some, Option.map_some, Option.map_none, op2_add, op2_addT, op2_addL, op2_sub, op2_mul, op2_fdiv, op2_mod, cm2_lt, cm2_le, cm2_gt, cm2_ge, bi_lenL, bi_lenT, bi_tupL, bi_tupT, bi_lstL, bi_lstT, bi_int, bi_bool, bi_abs, bi_max, bi_min, bi_sum, bi_all, seqOf_l, seqOf_t, bi_sorted, bi_repr, iop_a, iop_s, iop_m, itemsL, itemsT, ty1, ty2, ty3, ty4, ty5, ty6, ty7, ty8, ty9, ty10, isN0, isN1, isN2, isN3, isN4, isN5, decide_eq_true_eq, if_true, Bool.true_or, Bool.or_true, Bool.true_and, Bool.and_true, Bool.false_eq_true, if_false, noL_int, noL_bool, noL_tup, noLs_nil, noLs_cons, pints_map, pbools_map, Option.map_some, Bool.or_self, Bool.and_self, Bool.or_false, Bool.false_or, noLs_ints, ix0, ix1, ix2, frC_bool, frC_tup, frC_lst, biFr_tup, biFr_lst, biFr_int, frN_lst, frN_tup, frN_bool, cut2, slD_t, slD_l, true_and, and_true, hb, hn]
  · rintro ⟨env, s1⟩ he
    simp only at he
    subst he
    rw [wss_one]
    refine w_mix ⟨xs, rfl, hn, hl, ?_⟩
    exact mixGo_ok hp hW _ _ _ rfl (by omega) fun ds s' h => q ds s' h
end

/-! ### drawn frames -/
abbrev Rd := Int × Int × Int
def eR (r : Rd) : D := .tuple [.int r.1, .int r.2.1, .int r.2.2]
def eF (n : Int) (rs : List Rd) : D := .tuple [.int n, .tuple (rs.map eR)]
def okR (n : Int) (r : Rd) : Prop := 0 ≤ r.1 ∧ r.1 < n ∧ 0 ≤ r.2.1 ∧ r.2.1 < n ∧ (r.2.2 = 1 ∨ r.2.2 = -1)
def okF (a b : Nat) (n : Int) (rs : List Rd) : Prop := 1 ≤ n ∧ n ≤ a ∧ rs.length ≤ b ∧ ∀ r ∈ rs, okR n r
theorem noL_R {r : Rd} : noL (eR r) = true := by simp [eR, noL, noLs]
theorem noL_Rs {rs : List Rd} : noLs (rs.map eR) = true := noLs_map fun _ _ => noL_R
theorem noL_F {n : Int} {rs : List Rd} : noL (eF n rs) = true := by simp [eF, noL, noLs, noL_Rs]
theorem nice_R {n : Int} {r : Rd} (h : okR n r) (hn : n < 1000) : Nice 1 72 (eR r) := by
  obtain ⟨h1, h2, h3, h4, h5⟩ := h
  have := nice_ints (l := [r.1, r.2.1, r.2.2]) fun x hx => by
    simp only [List.mem_cons, List.not_mem_nil, or_false] at hx
    rcases hx with rfl | rfl | rfl <;> omega
  exact this.mono (by omega) (by simp)
theorem nice_F {a b : Nat} {n : Int} {rs : List Rd} (h : okF a b n rs) (ha : a < 1000) (hb : b < 1000) : Nice 3 200000 (eF n rs) := by
  obtain ⟨h1, h2, h3, h4⟩ := h
  have hr := nice_tup (dp := 1) (b := 72) (xs := rs.map eR) fun x hx => by
    obtain ⟨r, hr, rfl⟩ := List.mem_map.mp hx
    exact nice_R (h4 r hr) (by omega)
  have := nice_tup (dp := 2) (b := 80000) (xs := [.int n, .tuple (rs.map eR)]) fun x hx => by
    simp only [List.mem_cons, List.not_mem_nil, or_false] at hx
    rcases hx with rfl | rfl
    · exact (nice_int (by omega)).mono (by omega) (by omega)
    · exact hr.mono (by omega) (by rw [List.length_map]; omega)
  exact this.mono (by omega) (by simp)
/-- a drawn signed frame, roads from either end, halves, a shut one now and then -/
def frameD (p o m : Nat) : DefC := ⟨⟨"_law_frame", ["source", "most", "many"], true⟩, ["source", "most", "many", "n", "roads", "names", "lap", "a", "b", "sign"], .cons (.par [3, 4] (.cons (.op .add (.int 1) (.call p (.cons (.var 1) (.nil)))) (.cons (.lst (.nil)) (.nil)))) (.cons (.asg 5 [3] (.call m (.cons (.rl1 false (.var 3)) (.nil)))) (.cons (.fort (.name 6) [2] (.rg1 (.call p (.cons (.op .add (.var 2) (.int 1)) (.nil)))) (.cons (.par [7, 8, 9] (.cons (.call p (.cons (.var 3) (.nil))) (.cons (.call p (.cons (.var 3) (.nil))) (.cons (.call o (.cons (.lst (.cons (.int 1) (.cons (.neg (.int 1)) (.nil)))) (.nil))) (.nil))))) (.cons (.ifs (.and (.cmp .eq (.var 7) (.var 8)) (.cmp .gt (.call p (.cons (.int 3) (.nil))) (.int 0))) (.cons (.asg 8 [3, 7] (.op .sub (.op .sub (.var 3) (.int 1)) (.var 7))) (.nil)) (.nil)) (.cons (.ifs (.cmp .eq (.var 7) (.var 8)) (.cons (.asg 9 [9] (.ite (.cmp .gt (.call p (.cons (.int 6) (.nil))) (.int 0)) (.neg (.int 1)) (.var 9))) (.nil)) (.nil)) (.cons (.append 4 (.tup (.cons (.ix (.var 5) (.var 7)) (.cons (.ix (.var 5) (.var 8)) (.cons (.var 9) (.nil)))))) (.nil)))))) (.cons (.ret (.tup (.cons (.var 3) (.cons (.bi .tuple (.var 4) (.nil)) (.nil))))) (.nil))))⟩
section
variable {T : List DefC} {W k i : Nat} {s : Src} {Q : D → Src → Prop}
theorem range_perm {n : Int} {ds : List D} (h : ds.Perm (rangeD 0 n.toNat)) : ∃ ns : List Int, ds = ns.map .int ∧ ns.length = n.toNat ∧ ∀ x ∈ ns, 0 ≤ x ∧ x < n := by
  have hm : ∀ d ∈ ds, ∃ x : Int, d = .int x ∧ 0 ≤ x ∧ x < n := fun d hd => by
    have := h.mem_iff.mp hd
    simp only [rangeD, List.mem_map, List.mem_range] at this
    obtain ⟨a, ha, rfl⟩ := this
    exact ⟨_, rfl, by omega, by omega⟩
  have hl : ds.length = n.toNat := by rw [h.length_eq, range_len]
  clear h
  have key : ∀ (ds : List D), (∀ d ∈ ds, ∃ x : Int, d = .int x ∧ 0 ≤ x ∧ x < n) → ∃ ns : List Int, ds = ns.map .int ∧ ∀ x ∈ ns, 0 ≤ x ∧ x < n := fun ds => by
    induction ds with
    | nil => exact fun _ => ⟨[], rfl, fun _ h => nomatch h⟩
    | cons d r ih =>
      intro hm
      obtain ⟨x, rfl, h0, h1⟩ := hm d List.mem_cons_self
      obtain ⟨ns, rfl, hn⟩ := ih fun d hd => hm d (List.mem_cons_of_mem _ hd)
      refine ⟨x :: ns, rfl, fun y hy => ?_⟩
      rcases List.mem_cons.mp hy with rfl | hy
      · exact ⟨h0, h1⟩
      · exact hn y hy
  obtain ⟨ns, rfl, hn⟩ := key ds hm
  exact ⟨ns, rfl, by simpa using hl, hn⟩
theorem frame_ok {p o m : Nat} (hp : T[p]? = some pickD) (ho : T[o]? = some (ofD p)) (hm : T[m]? = some (mixD p)) (hT : T[i]? = some (frameD p o m)) (hW : 0 < W) {most many : Nat} (h1 : 1 ≤ most) (h2 : most < 1000) (h3 : many < 1000)
    (q : ∀ n rs s', okF most many n rs → Q (eF n rs) s') : O2 (callK T W (k + 3) i [.int most, .int many] s) Q := by
  refine call_ok hT rfl ?_
  show WSs (callK T W (k + 2)) W (frameD p o m).body ⟨[none, some (.int most, true), some (.int many, true), none, none, none, none, none, none, none], s⟩ _
  unfold frameD
  refine wss_seq (fun st => ∃ n : Int, 1 ≤ n ∧ n ≤ most ∧ st.env = [none, some (.int most, true), some (.int many, true), some (.int n, true), some (.list [], true), none, none, none, none, none]) (w_par ?_) ?_
  · simp only [wss_nil, wss_one, w_ifs, w_ret, w_retN, w_pass, w_drop, w_sSet, w_sPop, we_var, we_none, we_tru, we_fls, we_int, we_str, we_op, we_neg, we_cmp, we_chain, we_isN, we_notN, we_isT, we_notT, we_not, we_and, we_or, we_ite, we_tup, we_lst, we_ix, we_sl, we_rev, we_bi, we_isi, we_call, we_lc, we_sInt, we_sCnt, wc_no, wc_so, wo_no, wo_so, ws_nil, ws_cons, ws_star, wi_val, wi_rg1, wi_rg2, wi_enum, wi_zip, wi_zips, we_idx, we_rl1, we_rl2, putX_nil, putX_no, wt_turn, O1_some, O2_some, O3_some, O1_ite, asB_b, asI_i, frC_int, frN_int, vals_nil, vals_cons, getV_zero, getV_succ, asgT_n, asgT_t, asgTs_n, asgTs_c, putT_n, putT_t, putTs_n, putTs_c, putAll_n, putAll_c, wipe_n, wipe_c, List.map_cons, List.map_nil, List.set_cons_succ, List.set_cons_zero, Option.bind_some, Option.map_some, Option.map_none, op2_add, op2_addT, op2_addL, op2_sub, op2_mul, op2_fdiv, op2_mod, cm2_lt, cm2_le, cm2_gt, cm2_ge, bi_lenL, bi_lenT, bi_tupL, bi_tupT, bi_lstL, bi_lstT, bi_int, bi_bool, bi_abs, bi_max, bi_min, bi_sum, bi_all, seqOf_l, seqOf_t, bi_sorted, bi_repr, iop_a, iop_s, iop_m, itemsL, itemsT, ty1, ty2, ty3, ty4, ty5, ty6, ty7, ty8, ty9, ty10, isN0, isN1, isN2, isN3, isN4, isN5, decide_eq_true_eq, if_true, Bool.true_or, Bool.or_true, Bool.true_and, Bool.and_true, Bool.false_eq_true, if_false, noL_int, noL_bool, noL_tup, noLs_nil, noLs_cons, pints_map, pbools_map, Option.map_some, Bool.or_self, Bool.and_self, Bool.or_false, Bool.false_or, noLs_ints, ix0, ix1, ix2, frC_bool, frC_tup, frC_lst, biFr_tup, biFr_lst, biFr_int, frN_lst, frN_tup, frN_bool, cut2, slD_t, slD_l, true_and, and_true]
    refine pick_ok hp hW (by omega) fun r s' r0 r1 r2 => ?_
    simp only [wss_nil, wss_one, w_ifs, w_ret, w_retN, w_pass, w_drop, w_sSet, w_sPop, we_var, we_none, we_tru, we_fls, we_int, we_str, we_op, we_neg, we_cmp, we_chain, we_isN, we_notN, we_isT, we_notT, we_not, we_and, we_or, we_ite, we_tup, we_lst, we_ix, we_sl, we_rev, we_bi, we_isi, we_call, we_lc, we_sInt, we_sCnt, wc_no, wc_so, wo_no, wo_so, ws_nil, ws_cons, ws_star, wi_val, wi_rg1, wi_rg2, wi_enum, wi_zip, wi_zips, we_idx, we_rl1, we_rl2, putX_nil, putX_no, wt_turn, O1_some, O2_some, O3_some, O1_ite, asB_b, asI_i, frC_int, frN_int, vals_nil, vals_cons, getV_zero, getV_succ, asgT_n, asgT_t, asgTs_n, asgTs_c, putT_n, putT_t, putTs_n, putTs_c, putAll_n, putAll_c, wipe_n, wipe_c, List.map_cons, List.map_nil, List.set_cons_succ, List.set_cons_zero, Option.bind_some, Option.map_some, Option.map_none, op2_add, op2_addT, op2_addL, op2_sub, op2_mul, op2_fdiv, op2_mod, cm2_lt, cm2_le, cm2_gt, cm2_ge, bi_lenL, bi_lenT, bi_tupL, bi_tupT, bi_lstL, bi_lstT, bi_int, bi_bool, bi_abs, bi_max, bi_min, bi_sum, bi_all, seqOf_l, seqOf_t, bi_sorted, bi_repr, iop_a, iop_s, iop_m, itemsL, itemsT, ty1, ty2, ty3, ty4, ty5, ty6, ty7, ty8, ty9, ty10, isN0, isN1, isN2, isN3, isN4, isN5, decide_eq_true_eq, if_true, Bool.true_or, Bool.or_true, Bool.true_and, Bool.and_true, Bool.false_eq_true, if_false, noL_int, noL_bool, noL_tup, noLs_nil, noLs_cons, pints_map, pbools_map, Option.map_some, Bool.or_self, Bool.and_self, Bool.or_false, Bool.false_or, noLs_ints, ix0, ix1, ix2, frC_bool, frC_tup, frC_lst, biFr_tup, biFr_lst, biFr_int, frN_lst, frN_tup, frN_bool, cut2, slD_t, slD_l, true_and, and_true]
    refine ⟨fits_of (by simp), fits_of (by simp), ?_⟩
    exact ⟨1 + r, by omega, by have := r1 (by omega); omega, rfl⟩
  rintro ⟨env, s1⟩ ⟨n, n1, n2, he⟩
  simp only at he
  subst he
  refine wss_seq (fun st => ∃ (ns : List Int) (o : Bool), ns.length = n.toNat ∧ (∀ x ∈ ns, 0 ≤ x ∧ x < n) ∧ st.env = [none, some (.int most, true), some (.int many, true), some (.int n, true), some (.list [], true), some (.list (ns.map .int), o), none, none, none, none]) (w_asgM (P := fun d _ => ∃ ns : List Int, ns.length = n.toNat ∧ (∀ x ∈ ns, 0 ≤ x ∧ x < n) ∧ d = .list (ns.map .int)) ?_ ?_ ?_) ?_
  · simp only [wss_nil, wss_one, w_ifs, w_ret, w_retN, w_pass, w_drop, w_sSet, w_sPop, we_var, we_none, we_tru, we_fls, we_int, we_str, we_op, we_neg, we_cmp, we_chain, we_isN, we_notN, we_isT, we_notT, we_not, we_and, we_or, we_ite, we_tup, we_lst, we_ix, we_sl, we_rev, we_bi, we_isi, we_call, we_lc, we_sInt, we_sCnt, wc_no, wc_so, wo_no, wo_so, ws_nil, ws_cons, ws_star, wi_val, wi_rg1, wi_rg2, wi_enum, wi_zip, wi_zips, we_idx, we_rl1, we_rl2, putX_nil, putX_no, wt_turn, O1_some, O2_some, O3_some, O1_ite, asB_b, asI_i, frC_int, frN_int, vals_nil, vals_cons, getV_zero, getV_succ, asgT_n, asgT_t, asgTs_n, asgTs_c, putT_n, putT_t, putTs_n, putTs_c, putAll_n, putAll_c, wipe_n, wipe_c, List.map_cons, List.map_nil, List.set_cons_succ, List.set_cons_zero, Option.bind_some, Option.map_some, Option.map_none, op2_add, op2_addT, op2_addL, op2_sub, op2_mul, op2_fdiv, op2_mod, cm2_lt, cm2_le, cm2_gt, cm2_ge, bi_lenL, bi_lenT, bi_tupL, bi_tupT, bi_lstL, bi_lstT, bi_int, bi_bool, bi_abs, bi_max, bi_min, bi_sum, bi_all, seqOf_l, seqOf_t, bi_sorted, bi_repr, iop_a, iop_s, iop_m, itemsL, itemsT, ty1, ty2, ty3, ty4, ty5, ty6, ty7, ty8, ty9, ty10, isN0, isN1, isN2, isN3, isN4, isN5, decide_eq_true_eq, if_true, Bool.true_or, Bool.or_true, Bool.true_and, Bool.and_true, Bool.false_eq_true, if_false, noL_int, noL_bool, noL_tup, noLs_nil, noLs_cons, pints_map, pbools_map, Option.map_some, Bool.or_self, Bool.and_self, Bool.or_false, Bool.false_or, noLs_ints, ix0, ix1, ix2, frC_bool, frC_tup, frC_lst, biFr_tup, biFr_lst, biFr_int, frN_lst, frN_tup, frN_bool, cut2, slD_t, slD_l, true_and, and_true]
    refine ⟨okRg_of (by omega) (by omega) (by omega) (by omega), fits_of (by omega), ?_⟩
    refine mix_ok hp hm hW rfl (noLs_map fun _ _ => rfl) (by rw [range_len]; omega) fun ds s' h => ?_
    obtain ⟨ns, rfl, e1, e2⟩ := range_perm h
    exact ⟨ns, e1, e2, rfl⟩
  · show WE _ _ [none, none, none, some (.int n), none, none, none, none, none, none] _ _
    simp only [wss_nil, wss_one, w_ifs, w_ret, w_retN, w_pass, w_drop, w_sSet, w_sPop, we_var, we_none, we_tru, we_fls, we_int, we_str, we_op, we_neg, we_cmp, we_chain, we_isN, we_notN, we_isT, we_notT, we_not, we_and, we_or, we_ite, we_tup, we_lst, we_ix, we_sl, we_rev, we_bi, we_isi, we_call, we_lc, we_sInt, we_sCnt, wc_no, wc_so, wo_no, wo_so, ws_nil, ws_cons, ws_star, wi_val, wi_rg1, wi_rg2, wi_enum, wi_zip, wi_zips, we_idx, we_rl1, we_rl2, putX_nil, putX_no, wt_turn, O1_some, O2_some, O3_some, O1_ite, asB_b, asI_i, frC_int, frN_int, vals_nil, vals_cons, getV_zero, getV_succ, asgT_n, asgT_t, asgTs_n, asgTs_c, putT_n, putT_t, putTs_n, putTs_c, putAll_n, putAll_c, wipe_n, wipe_c, List.map_cons, List.map_nil, List.set_cons_succ, List.set_cons_zero, Option.bind_some, Option.map_some, Option.map_none, op2_add, op2_addT, op2_addL, op2_sub, op2_mul, op2_fdiv, op2_mod, cm2_lt, cm2_le, cm2_gt, cm2_ge, bi_lenL, bi_lenT, bi_tupL, bi_tupT, bi_lstL, bi_lstT, bi_int, bi_bool, bi_abs, bi_max, bi_min, bi_sum, bi_all, seqOf_l, seqOf_t, bi_sorted, bi_repr, iop_a, iop_s, iop_m, itemsL, itemsT, ty1, ty2, ty3, ty4, ty5, ty6, ty7, ty8, ty9, ty10, isN0, isN1, isN2, isN3, isN4, isN5, decide_eq_true_eq, if_true, Bool.true_or, Bool.or_true, Bool.true_and, Bool.and_true, Bool.false_eq_true, if_false, noL_int, noL_bool, noL_tup, noLs_nil, noLs_cons, pints_map, pbools_map, Option.map_some, Bool.or_self, Bool.and_self, Bool.or_false, Bool.false_or, noLs_ints, ix0, ix1, ix2, frC_bool, frC_tup, frC_lst, biFr_tup, biFr_lst, biFr_int, frN_lst, frN_tup, frN_bool, cut2, slD_t, slD_l, true_and, and_true]
    refine ⟨okRg_of (by omega) (by omega) (by omega) (by omega), fits_of (by omega), ?_⟩
    refine mix_ok hp hm hW rfl (noLs_map fun _ _ => rfl) (by rw [range_len]; omega) fun ds s' h => ?_
    obtain ⟨ns, rfl, e1, e2⟩ := range_perm h
    exact ⟨ns, e1, e2, rfl⟩
  · rintro d s2 ⟨ns, e1, e2, rfl⟩
    exact ⟨⟨ns, true, e1, e2, rfl⟩, ⟨ns, false, e1, e2, rfl⟩⟩
  rintro ⟨env, s2⟩ ⟨ns, ow, e1, e2, he⟩
  simp only at he
  subst he
  refine wss_seq (fun st => ∃ (rs : List Rd) (x6 x7 x8 x9 : Option (D × Bool)), rs.length ≤ many ∧ (∀ r ∈ rs, okR n r) ∧ st.env = [none, some (.int most, true), some (.int many, true), some (.int n, true), some (.list (rs.map eR), true), some (.list (ns.map .int), ow), x6, x7, x8, x9]) ?_ ?_
  · refine w_for (fun rest st => ∃ (rs : List Rd) (x6 x7 x8 x9 : Option (D × Bool)), rs.length + rest.length ≤ many ∧ (∀ r ∈ rs, okR n r) ∧ st.env = [none, some (.int most, true), some (.int many, true), some (.int n, true), some (.list (rs.map eR), true), some (.list (ns.map .int), ow), x6, x7, x8, x9]) ?_ ?_ ?_
    · simp only [wss_nil, wss_one, w_ifs, w_ret, w_retN, w_pass, w_drop, w_sSet, w_sPop, we_var, we_none, we_tru, we_fls, we_int, we_str, we_op, we_neg, we_cmp, we_chain, we_isN, we_notN, we_isT, we_notT, we_not, we_and, we_or, we_ite, we_tup, we_lst, we_ix, we_sl, we_rev, we_bi, we_isi, we_call, we_lc, we_sInt, we_sCnt, wc_no, wc_so, wo_no, wo_so, ws_nil, ws_cons, ws_star, wi_val, wi_rg1, wi_rg2, wi_enum, wi_zip, wi_zips, we_idx, we_rl1, we_rl2, putX_nil, putX_no, wt_turn, O1_some, O2_some, O3_some, O1_ite, asB_b, asI_i, frC_int, frN_int, vals_nil, vals_cons, getV_zero, getV_succ, asgT_n, asgT_t, asgTs_n, asgTs_c, putT_n, putT_t, putTs_n, putTs_c, putAll_n, putAll_c, wipe_n, wipe_c, List.map_cons, List.map_nil, List.set_cons_succ, List.set_cons_zero, Option.bind_some, Option.map_some, Option.map_none, op2_add, op2_addT, op2_addL, op2_sub, op2_mul, op2_fdiv, op2_mod, cm2_lt, cm2_le, cm2_gt, cm2_ge, bi_lenL, bi_lenT, bi_tupL, bi_tupT, bi_lstL, bi_lstT, bi_int, bi_bool, bi_abs, bi_max, bi_min, bi_sum, bi_all, seqOf_l, seqOf_t, bi_sorted, bi_repr, iop_a, iop_s, iop_m, itemsL, itemsT, ty1, ty2, ty3, ty4, ty5, ty6, ty7, ty8, ty9, ty10, isN0, isN1, isN2, isN3, isN4, isN5, decide_eq_true_eq, if_true, Bool.true_or, Bool.or_true, Bool.true_and, Bool.and_true, Bool.false_eq_true, if_false, noL_int, noL_bool, noL_tup, noLs_nil, noLs_cons, pints_map, pbools_map, Option.map_some, Bool.or_self, Bool.and_self, Bool.or_false, Bool.false_or, noLs_ints, ix0, ix1, ix2, frC_bool, frC_tup, frC_lst, biFr_tup, biFr_lst, biFr_int, frN_lst, frN_tup, frN_bool, cut2, slD_t, slD_l, true_and, and_true]
      refine pick_ok hp hW (by omega) fun r s' r0 r1 r2 => ?_
      simp only [wss_nil, wss_one, w_ifs, w_ret, w_retN, w_pass, w_drop, w_sSet, w_sPop, we_var, we_none, we_tru, we_fls, we_int, we_str, we_op, we_neg, we_cmp, we_chain, we_isN, we_notN, we_isT, we_notT, we_not, we_and, we_or, we_ite, we_tup, we_lst, we_ix, we_sl, we_rev, we_bi, we_isi, we_call, we_lc, we_sInt, we_sCnt, wc_no, wc_so, wo_no, wo_so, ws_nil, ws_cons, ws_star, wi_val, wi_rg1, wi_rg2, wi_enum, wi_zip, wi_zips, we_idx, we_rl1, we_rl2, putX_nil, putX_no, wt_turn, O1_some, O2_some, O3_some, O1_ite, asB_b, asI_i, frC_int, frN_int, vals_nil, vals_cons, getV_zero, getV_succ, asgT_n, asgT_t, asgTs_n, asgTs_c, putT_n, putT_t, putTs_n, putTs_c, putAll_n, putAll_c, wipe_n, wipe_c, List.map_cons, List.map_nil, List.set_cons_succ, List.set_cons_zero, Option.bind_some, Option.map_some, Option.map_none, op2_add, op2_addT, op2_addL, op2_sub, op2_mul, op2_fdiv, op2_mod, cm2_lt, cm2_le, cm2_gt, cm2_ge, bi_lenL, bi_lenT, bi_tupL, bi_tupT, bi_lstL, bi_lstT, bi_int, bi_bool, bi_abs, bi_max, bi_min, bi_sum, bi_all, seqOf_l, seqOf_t, bi_sorted, bi_repr, iop_a, iop_s, iop_m, itemsL, itemsT, ty1, ty2, ty3, ty4, ty5, ty6, ty7, ty8, ty9, ty10, isN0, isN1, isN2, isN3, isN4, isN5, decide_eq_true_eq, if_true, Bool.true_or, Bool.or_true, Bool.true_and, Bool.and_true, Bool.false_eq_true, if_false, noL_int, noL_bool, noL_tup, noLs_nil, noLs_cons, pints_map, pbools_map, Option.map_some, Bool.or_self, Bool.and_self, Bool.or_false, Bool.false_or, noLs_ints, ix0, ix1, ix2, frC_bool, frC_tup, frC_lst, biFr_tup, biFr_lst, biFr_int, frN_lst, frN_tup, frN_bool, cut2, slD_t, slD_l, true_and, and_true]
      have := r1 (by omega)
      refine ⟨okRg_of (by omega) (by omega) (by omega) (by omega), [], none, none, none, none, ?_, (fun _ h => nomatch h), rfl⟩
      rw [range_len]
      simp only [List.length_nil]
      omega
    · rintro d rest ⟨env, s3⟩ ⟨rs, x6, x7, x8, x9, hl, hr, he⟩
      simp only at he
      subst he
      simp only [List.length_cons] at hl
      simp only [putT_n, O1_some, List.set_cons_succ, List.set_cons_zero]
      refine wss_seq (fun st => ∃ (a b sg : Int) (x6 : Option (D × Bool)), (0 ≤ a ∧ a < n) ∧ (0 ≤ b ∧ b < n) ∧ (sg = 1 ∨ sg = -1) ∧ st.env = [none, some (.int most, true), some (.int many, true), some (.int n, true), some (.list (rs.map eR), true), some (.list (ns.map .int), ow), x6, some (.int a, true), some (.int b, true), some (.int sg, true)]) (w_par ?_) ?_
      · simp only [wss_nil, wss_one, w_ifs, w_ret, w_retN, w_pass, w_drop, w_sSet, w_sPop, we_var, we_none, we_tru, we_fls, we_int, we_str, we_op, we_neg, we_cmp, we_chain, we_isN, we_notN, we_isT, we_notT, we_not, we_and, we_or, we_ite, we_tup, we_lst, we_ix, we_sl, we_rev, we_bi, we_isi, we_call, we_lc, we_sInt, we_sCnt, wc_no, wc_so, wo_no, wo_so, ws_nil, ws_cons, ws_star, wi_val, wi_rg1, wi_rg2, wi_enum, wi_zip, wi_zips, we_idx, we_rl1, we_rl2, putX_nil, putX_no, wt_turn, O1_some, O2_some, O3_some, O1_ite, asB_b, asI_i, frC_int, frN_int, vals_nil, vals_cons, getV_zero, getV_succ, asgT_n, asgT_t, asgTs_n, asgTs_c, putT_n, putT_t, putTs_n, putTs_c, putAll_n, putAll_c, wipe_n, wipe_c, List.map_cons, List.map_nil, List.set_cons_succ, List.set_cons_zero, Option.bind_some, Option.map_some, Option.map_none, op2_add, op2_addT, op2_addL, op2_sub, op2_mul, op2_fdiv, op2_mod, cm2_lt, cm2_le, cm2_gt, cm2_ge, bi_lenL, bi_lenT, bi_tupL, bi_tupT, bi_lstL, bi_lstT, bi_int, bi_bool, bi_abs, bi_max, bi_min, bi_sum, bi_all, seqOf_l, seqOf_t, bi_sorted, bi_repr, iop_a, iop_s, iop_m, itemsL, itemsT, ty1, ty2, ty3, ty4, ty5, ty6, ty7, ty8, ty9, ty10, isN0, isN1, isN2, isN3, isN4, isN5, decide_eq_true_eq, if_true, Bool.true_or, Bool.or_true, Bool.true_and, Bool.and_true, Bool.false_eq_true, if_false, noL_int, noL_bool, noL_tup, noLs_nil, noLs_cons, pints_map, pbools_map, Option.map_some, Bool.or_self, Bool.and_self, Bool.or_false, Bool.false_or, noLs_ints, ix0, ix1, ix2, frC_bool, frC_tup, frC_lst, biFr_tup, biFr_lst, biFr_int, frN_lst, frN_tup, frN_bool, cut2, slD_t, slD_l, true_and, and_true]
        refine pick_ok hp hW (by omega) fun a s' a0 a1 a2 => ?_
        simp only [wss_nil, wss_one, w_ifs, w_ret, w_retN, w_pass, w_drop, w_sSet, w_sPop, we_var, we_none, we_tru, we_fls, we_int, we_str, we_op, we_neg, we_cmp, we_chain, we_isN, we_notN, we_isT, we_notT, we_not, we_and, we_or, we_ite, we_tup, we_lst, we_ix, we_sl, we_rev, we_bi, we_isi, we_call, we_lc, we_sInt, we_sCnt, wc_no, wc_so, wo_no, wo_so, ws_nil, ws_cons, ws_star, wi_val, wi_rg1, wi_rg2, wi_enum, wi_zip, wi_zips, we_idx, we_rl1, we_rl2, putX_nil, putX_no, wt_turn, O1_some, O2_some, O3_some, O1_ite, asB_b, asI_i, frC_int, frN_int, vals_nil, vals_cons, getV_zero, getV_succ, asgT_n, asgT_t, asgTs_n, asgTs_c, putT_n, putT_t, putTs_n, putTs_c, putAll_n, putAll_c, wipe_n, wipe_c, List.map_cons, List.map_nil, List.set_cons_succ, List.set_cons_zero, Option.bind_some, Option.map_some, Option.map_none, op2_add, op2_addT, op2_addL, op2_sub, op2_mul, op2_fdiv, op2_mod, cm2_lt, cm2_le, cm2_gt, cm2_ge, bi_lenL, bi_lenT, bi_tupL, bi_tupT, bi_lstL, bi_lstT, bi_int, bi_bool, bi_abs, bi_max, bi_min, bi_sum, bi_all, seqOf_l, seqOf_t, bi_sorted, bi_repr, iop_a, iop_s, iop_m, itemsL, itemsT, ty1, ty2, ty3, ty4, ty5, ty6, ty7, ty8, ty9, ty10, isN0, isN1, isN2, isN3, isN4, isN5, decide_eq_true_eq, if_true, Bool.true_or, Bool.or_true, Bool.true_and, Bool.and_true, Bool.false_eq_true, if_false, noL_int, noL_bool, noL_tup, noLs_nil, noLs_cons, pints_map, pbools_map, Option.map_some, Bool.or_self, Bool.and_self, Bool.or_false, Bool.false_or, noLs_ints, ix0, ix1, ix2, frC_bool, frC_tup, frC_lst, biFr_tup, biFr_lst, biFr_int, frN_lst, frN_tup, frN_bool, cut2, slD_t, slD_l, true_and, and_true]
        refine pick_ok hp hW (by omega) fun b s' b0 b1 b2 => ?_
        simp only [wss_nil, wss_one, w_ifs, w_ret, w_retN, w_pass, w_drop, w_sSet, w_sPop, we_var, we_none, we_tru, we_fls, we_int, we_str, we_op, we_neg, we_cmp, we_chain, we_isN, we_notN, we_isT, we_notT, we_not, we_and, we_or, we_ite, we_tup, we_lst, we_ix, we_sl, we_rev, we_bi, we_isi, we_call, we_lc, we_sInt, we_sCnt, wc_no, wc_so, wo_no, wo_so, ws_nil, ws_cons, ws_star, wi_val, wi_rg1, wi_rg2, wi_enum, wi_zip, wi_zips, we_idx, we_rl1, we_rl2, putX_nil, putX_no, wt_turn, O1_some, O2_some, O3_some, O1_ite, asB_b, asI_i, frC_int, frN_int, vals_nil, vals_cons, getV_zero, getV_succ, asgT_n, asgT_t, asgTs_n, asgTs_c, putT_n, putT_t, putTs_n, putTs_c, putAll_n, putAll_c, wipe_n, wipe_c, List.map_cons, List.map_nil, List.set_cons_succ, List.set_cons_zero, Option.bind_some, Option.map_some, Option.map_none, op2_add, op2_addT, op2_addL, op2_sub, op2_mul, op2_fdiv, op2_mod, cm2_lt, cm2_le, cm2_gt, cm2_ge, bi_lenL, bi_lenT, bi_tupL, bi_tupT, bi_lstL, bi_lstT, bi_int, bi_bool, bi_abs, bi_max, bi_min, bi_sum, bi_all, seqOf_l, seqOf_t, bi_sorted, bi_repr, iop_a, iop_s, iop_m, itemsL, itemsT, ty1, ty2, ty3, ty4, ty5, ty6, ty7, ty8, ty9, ty10, isN0, isN1, isN2, isN3, isN4, isN5, decide_eq_true_eq, if_true, Bool.true_or, Bool.or_true, Bool.true_and, Bool.and_true, Bool.false_eq_true, if_false, noL_int, noL_bool, noL_tup, noLs_nil, noLs_cons, pints_map, pbools_map, Option.map_some, Bool.or_self, Bool.and_self, Bool.or_false, Bool.false_or, noLs_ints, ix0, ix1, ix2, frC_bool, frC_tup, frC_lst, biFr_tup, biFr_lst, biFr_int, frN_lst, frN_tup, frN_bool, cut2, slD_t, slD_l, true_and, and_true]
        refine ⟨fits_of (by simp), ?_⟩
        refine of_ok hp ho hW rfl (by simp) (by simp) fun d2 hd s6 => ?_
        simp only [List.mem_cons, List.not_mem_nil, or_false] at hd
        have := a1 (by omega)
        have := b1 (by omega)
        rcases hd with rfl | rfl
        · simp only [wss_nil, wss_one, w_ifs, w_ret, w_retN, w_pass, w_drop, w_sSet, w_sPop, we_var, we_none, we_tru, we_fls, we_int, we_str, we_op, we_neg, we_cmp, we_chain, we_isN, we_notN, we_isT, we_notT, we_not, we_and, we_or, we_ite, we_tup, we_lst, we_ix, we_sl, we_rev, we_bi, we_isi, we_call, we_lc, we_sInt, we_sCnt, wc_no, wc_so, wo_no, wo_so, ws_nil, ws_cons, ws_star, wi_val, wi_rg1, wi_rg2, wi_enum, wi_zip, wi_zips, we_idx, we_rl1, we_rl2, putX_nil, putX_no, wt_turn, O1_some, O2_some, O3_some, O1_ite, asB_b, asI_i, frC_int, frN_int, vals_nil, vals_cons, getV_zero, getV_succ, asgT_n, asgT_t, asgTs_n, asgTs_c, putT_n, putT_t, putTs_n, putTs_c, putAll_n, putAll_c, wipe_n, wipe_c, List.map_cons, List.map_nil, List.set_cons_succ, List.set_cons_zero, Option.bind_some, Option.map_some, Option.map_none, op2_add, op2_addT, op2_addL, op2_sub, op2_mul, op2_fdiv, op2_mod, cm2_lt, cm2_le, cm2_gt, cm2_ge, bi_lenL, bi_lenT, bi_tupL, bi_tupT, bi_lstL, bi_lstT, bi_int, bi_bool, bi_abs, bi_max, bi_min, bi_sum, bi_all, seqOf_l, seqOf_t, bi_sorted, bi_repr, iop_a, iop_s, iop_m, itemsL, itemsT, ty1, ty2, ty3, ty4, ty5, ty6, ty7, ty8, ty9, ty10, isN0, isN1, isN2, isN3, isN4, isN5, decide_eq_true_eq, if_true, Bool.true_or, Bool.or_true, Bool.true_and, Bool.and_true, Bool.false_eq_true, if_false, noL_int, noL_bool, noL_tup, noLs_nil, noLs_cons, pints_map, pbools_map, Option.map_some, Bool.or_self, Bool.and_self, Bool.or_false, Bool.false_or, noLs_ints, ix0, ix1, ix2, frC_bool, frC_tup, frC_lst, biFr_tup, biFr_lst, biFr_int, frN_lst, frN_tup, frN_bool, cut2, slD_t, slD_l, true_and, and_true]
          exact ⟨fits_of (by simp), a, b, 1, _, ⟨a0, by omega⟩, ⟨b0, by omega⟩, .inl rfl, rfl⟩
        · simp only [wss_nil, wss_one, w_ifs, w_ret, w_retN, w_pass, w_drop, w_sSet, w_sPop, we_var, we_none, we_tru, we_fls, we_int, we_str, we_op, we_neg, we_cmp, we_chain, we_isN, we_notN, we_isT, we_notT, we_not, we_and, we_or, we_ite, we_tup, we_lst, we_ix, we_sl, we_rev, we_bi, we_isi, we_call, we_lc, we_sInt, we_sCnt, wc_no, wc_so, wo_no, wo_so, ws_nil, ws_cons, ws_star, wi_val, wi_rg1, wi_rg2, wi_enum, wi_zip, wi_zips, we_idx, we_rl1, we_rl2, putX_nil, putX_no, wt_turn, O1_some, O2_some, O3_some, O1_ite, asB_b, asI_i, frC_int, frN_int, vals_nil, vals_cons, getV_zero, getV_succ, asgT_n, asgT_t, asgTs_n, asgTs_c, putT_n, putT_t, putTs_n, putTs_c, putAll_n, putAll_c, wipe_n, wipe_c, List.map_cons, List.map_nil, List.set_cons_succ, List.set_cons_zero, Option.bind_some, Option.map_some, Option.map_none, op2_add, op2_addT, op2_addL, op2_sub, op2_mul, op2_fdiv, op2_mod, cm2_lt, cm2_le, cm2_gt, cm2_ge, bi_lenL, bi_lenT, bi_tupL, bi_tupT, bi_lstL, bi_lstT, bi_int, bi_bool, bi_abs, bi_max, bi_min, bi_sum, bi_all, seqOf_l, seqOf_t, bi_sorted, bi_repr, iop_a, iop_s, iop_m, itemsL, itemsT, ty1, ty2, ty3, ty4, ty5, ty6, ty7, ty8, ty9, ty10, isN0, isN1, isN2, isN3, isN4, isN5, decide_eq_true_eq, if_true, Bool.true_or, Bool.or_true, Bool.true_and, Bool.and_true, Bool.false_eq_true, if_false, noL_int, noL_bool, noL_tup, noLs_nil, noLs_cons, pints_map, pbools_map, Option.map_some, Bool.or_self, Bool.and_self, Bool.or_false, Bool.false_or, noLs_ints, ix0, ix1, ix2, frC_bool, frC_tup, frC_lst, biFr_tup, biFr_lst, biFr_int, frN_lst, frN_tup, frN_bool, cut2, slD_t, slD_l, true_and, and_true]
          exact ⟨fits_of (by simp), a, b, -1, _, ⟨a0, by omega⟩, ⟨b0, by omega⟩, .inr rfl, rfl⟩
      clear x6 x7 x8 x9
      rintro ⟨env, s4⟩ ⟨a, b, sg, x6, ha, hb, hs, he⟩
      simp only at he
      subst he
      refine wss_seq (fun st => ∃ (b : Int), (0 ≤ b ∧ b < n) ∧ st.env = [none, some (.int most, true), some (.int many, true), some (.int n, true), some (.list (rs.map eR), true), some (.list (ns.map .int), ow), x6, some (.int a, true), some (.int b, true), some (.int sg, true)]) ?_ ?_
      · simp only [wss_nil, wss_one, w_ifs, w_ret, w_retN, w_pass, w_drop, w_sSet, w_sPop, we_var, we_none, we_tru, we_fls, we_int, we_str, we_op, we_neg, we_cmp, we_chain, we_isN, we_notN, we_isT, we_notT, we_not, we_and, we_or, we_ite, we_tup, we_lst, we_ix, we_sl, we_rev, we_bi, we_isi, we_call, we_lc, we_sInt, we_sCnt, wc_no, wc_so, wo_no, wo_so, ws_nil, ws_cons, ws_star, wi_val, wi_rg1, wi_rg2, wi_enum, wi_zip, wi_zips, we_idx, we_rl1, we_rl2, putX_nil, putX_no, wt_turn, O1_some, O2_some, O3_some, O1_ite, asB_b, asI_i, frC_int, frN_int, vals_nil, vals_cons, getV_zero, getV_succ, asgT_n, asgT_t, asgTs_n, asgTs_c, putT_n, putT_t, putTs_n, putTs_c, putAll_n, putAll_c, wipe_n, wipe_c, List.map_cons, List.map_nil, List.set_cons_succ, List.set_cons_zero, Option.bind_some, Option.map_some, Option.map_none, op2_add, op2_addT, op2_addL, op2_sub, op2_mul, op2_fdiv, op2_mod, cm2_lt, cm2_le, cm2_gt, cm2_ge, bi_lenL, bi_lenT, bi_tupL, bi_tupT, bi_lstL, bi_lstT, bi_int, bi_bool, bi_abs, bi_max, bi_min, bi_sum, bi_all, seqOf_l, seqOf_t, bi_sorted, bi_repr, iop_a, iop_s, iop_m, itemsL, itemsT, ty1, ty2, ty3, ty4, ty5, ty6, ty7, ty8, ty9, ty10, isN0, isN1, isN2, isN3, isN4, isN5, decide_eq_true_eq, if_true, Bool.true_or, Bool.or_true, Bool.true_and, Bool.and_true, Bool.false_eq_true, if_false, noL_int, noL_bool, noL_tup, noLs_nil, noLs_cons, pints_map, pbools_map, Option.map_some, Bool.or_self, Bool.and_self, Bool.or_false, Bool.false_or, noLs_ints, ix0, ix1, ix2, frC_bool, frC_tup, frC_lst, biFr_tup, biFr_lst, biFr_int, frN_lst, frN_tup, frN_bool, cut2, slD_t, slD_l, true_and, and_true, cm2_eqI]
        split
        · refine pick_ok hp hW (by decide) fun c s' c0 c1 c2 => ?_
          simp only [wss_nil, wss_one, w_ifs, w_ret, w_retN, w_pass, w_drop, w_sSet, w_sPop, we_var, we_none, we_tru, we_fls, we_int, we_str, we_op, we_neg, we_cmp, we_chain, we_isN, we_notN, we_isT, we_notT, we_not, we_and, we_or, we_ite, we_tup, we_lst, we_ix, we_sl, we_rev, we_bi, we_isi, we_call, we_lc, we_sInt, we_sCnt, wc_no, wc_so, wo_no, wo_so, ws_nil, ws_cons, ws_star, wi_val, wi_rg1, wi_rg2, wi_enum, wi_zip, wi_zips, we_idx, we_rl1, we_rl2, putX_nil, putX_no, wt_turn, O1_some, O2_some, O3_some, O1_ite, asB_b, asI_i, frC_int, frN_int, vals_nil, vals_cons, getV_zero, getV_succ, asgT_n, asgT_t, asgTs_n, asgTs_c, putT_n, putT_t, putTs_n, putTs_c, putAll_n, putAll_c, wipe_n, wipe_c, List.map_cons, List.map_nil, List.set_cons_succ, List.set_cons_zero, Option.bind_some, Option.map_some, Option.map_none, op2_add, op2_addT, op2_addL, op2_sub, op2_mul, op2_fdiv, op2_mod, cm2_lt, cm2_le, cm2_gt, cm2_ge, bi_lenL, bi_lenT, bi_tupL, bi_tupT, bi_lstL, bi_lstT, bi_int, bi_bool, bi_abs, bi_max, bi_min, bi_sum, bi_all, seqOf_l, seqOf_t, bi_sorted, bi_repr, iop_a, iop_s, iop_m, itemsL, itemsT, ty1, ty2, ty3, ty4, ty5, ty6, ty7, ty8, ty9, ty10, isN0, isN1, isN2, isN3, isN4, isN5, decide_eq_true_eq, if_true, Bool.true_or, Bool.or_true, Bool.true_and, Bool.and_true, Bool.false_eq_true, if_false, noL_int, noL_bool, noL_tup, noLs_nil, noLs_cons, pints_map, pbools_map, Option.map_some, Bool.or_self, Bool.and_self, Bool.or_false, Bool.false_or, noLs_ints, ix0, ix1, ix2, frC_bool, frC_tup, frC_lst, biFr_tup, biFr_lst, biFr_int, frN_lst, frN_tup, frN_bool, cut2, slD_t, slD_l, true_and, and_true]
          split
          · refine w_asg ?_
            simp only [wss_nil, wss_one, w_ifs, w_ret, w_retN, w_pass, w_drop, w_sSet, w_sPop, we_var, we_none, we_tru, we_fls, we_int, we_str, we_op, we_neg, we_cmp, we_chain, we_isN, we_notN, we_isT, we_notT, we_not, we_and, we_or, we_ite, we_tup, we_lst, we_ix, we_sl, we_rev, we_bi, we_isi, we_call, we_lc, we_sInt, we_sCnt, wc_no, wc_so, wo_no, wo_so, ws_nil, ws_cons, ws_star, wi_val, wi_rg1, wi_rg2, wi_enum, wi_zip, wi_zips, we_idx, we_rl1, we_rl2, putX_nil, putX_no, wt_turn, O1_some, O2_some, O3_some, O1_ite, asB_b, asI_i, frC_int, frN_int, vals_nil, vals_cons, getV_zero, getV_succ, asgT_n, asgT_t, asgTs_n, asgTs_c, putT_n, putT_t, putTs_n, putTs_c, putAll_n, putAll_c, wipe_n, wipe_c, List.map_cons, List.map_nil, List.set_cons_succ, List.set_cons_zero, Option.bind_some, Option.map_some, Option.map_none, op2_add, op2_addT, op2_addL, op2_sub, op2_mul, op2_fdiv, op2_mod, cm2_lt, cm2_le, cm2_gt, cm2_ge, bi_lenL, bi_lenT, bi_tupL, bi_tupT, bi_lstL, bi_lstT, bi_int, bi_bool, bi_abs, bi_max, bi_min, bi_sum, bi_all, seqOf_l, seqOf_t, bi_sorted, bi_repr, iop_a, iop_s, iop_m, itemsL, itemsT, ty1, ty2, ty3, ty4, ty5, ty6, ty7, ty8, ty9, ty10, isN0, isN1, isN2, isN3, isN4, isN5, decide_eq_true_eq, if_true, Bool.true_or, Bool.or_true, Bool.true_and, Bool.and_true, Bool.false_eq_true, if_false, noL_int, noL_bool, noL_tup, noLs_nil, noLs_cons, pints_map, pbools_map, Option.map_some, Bool.or_self, Bool.and_self, Bool.or_false, Bool.false_or, noLs_ints, ix0, ix1, ix2, frC_bool, frC_tup, frC_lst, biFr_tup, biFr_lst, biFr_int, frN_lst, frN_tup, frN_bool, cut2, slD_t, slD_l, true_and, and_true]
            exact ⟨_, by omega, rfl⟩
          · exact ⟨b, hb, rfl⟩
        · exact ⟨b, hb, rfl⟩
      clear hb
      rintro ⟨env, s5⟩ ⟨b, hb, he⟩
      simp only at he
      subst he
      refine wss_seq (fun st => ∃ (sg : Int), (sg = 1 ∨ sg = -1) ∧ st.env = [none, some (.int most, true), some (.int many, true), some (.int n, true), some (.list (rs.map eR), true), some (.list (ns.map .int), ow), x6, some (.int a, true), some (.int b, true), some (.int sg, true)]) ?_ ?_
      · simp only [wss_nil, wss_one, w_ifs, w_ret, w_retN, w_pass, w_drop, w_sSet, w_sPop, we_var, we_none, we_tru, we_fls, we_int, we_str, we_op, we_neg, we_cmp, we_chain, we_isN, we_notN, we_isT, we_notT, we_not, we_and, we_or, we_ite, we_tup, we_lst, we_ix, we_sl, we_rev, we_bi, we_isi, we_call, we_lc, we_sInt, we_sCnt, wc_no, wc_so, wo_no, wo_so, ws_nil, ws_cons, ws_star, wi_val, wi_rg1, wi_rg2, wi_enum, wi_zip, wi_zips, we_idx, we_rl1, we_rl2, putX_nil, putX_no, wt_turn, O1_some, O2_some, O3_some, O1_ite, asB_b, asI_i, frC_int, frN_int, vals_nil, vals_cons, getV_zero, getV_succ, asgT_n, asgT_t, asgTs_n, asgTs_c, putT_n, putT_t, putTs_n, putTs_c, putAll_n, putAll_c, wipe_n, wipe_c, List.map_cons, List.map_nil, List.set_cons_succ, List.set_cons_zero, Option.bind_some, Option.map_some, Option.map_none, op2_add, op2_addT, op2_addL, op2_sub, op2_mul, op2_fdiv, op2_mod, cm2_lt, cm2_le, cm2_gt, cm2_ge, bi_lenL, bi_lenT, bi_tupL, bi_tupT, bi_lstL, bi_lstT, bi_int, bi_bool, bi_abs, bi_max, bi_min, bi_sum, bi_all, seqOf_l, seqOf_t, bi_sorted, bi_repr, iop_a, iop_s, iop_m, itemsL, itemsT, ty1, ty2, ty3, ty4, ty5, ty6, ty7, ty8, ty9, ty10, isN0, isN1, isN2, isN3, isN4, isN5, decide_eq_true_eq, if_true, Bool.true_or, Bool.or_true, Bool.true_and, Bool.and_true, Bool.false_eq_true, if_false, noL_int, noL_bool, noL_tup, noLs_nil, noLs_cons, pints_map, pbools_map, Option.map_some, Bool.or_self, Bool.and_self, Bool.or_false, Bool.false_or, noLs_ints, ix0, ix1, ix2, frC_bool, frC_tup, frC_lst, biFr_tup, biFr_lst, biFr_int, frN_lst, frN_tup, frN_bool, cut2, slD_t, slD_l, true_and, and_true, cm2_eqI]
        split
        · refine w_asg ?_
          simp only [wss_nil, wss_one, w_ifs, w_ret, w_retN, w_pass, w_drop, w_sSet, w_sPop, we_var, we_none, we_tru, we_fls, we_int, we_str, we_op, we_neg, we_cmp, we_chain, we_isN, we_notN, we_isT, we_notT, we_not, we_and, we_or, we_ite, we_tup, we_lst, we_ix, we_sl, we_rev, we_bi, we_isi, we_call, we_lc, we_sInt, we_sCnt, wc_no, wc_so, wo_no, wo_so, ws_nil, ws_cons, ws_star, wi_val, wi_rg1, wi_rg2, wi_enum, wi_zip, wi_zips, we_idx, we_rl1, we_rl2, putX_nil, putX_no, wt_turn, O1_some, O2_some, O3_some, O1_ite, asB_b, asI_i, frC_int, frN_int, vals_nil, vals_cons, getV_zero, getV_succ, asgT_n, asgT_t, asgTs_n, asgTs_c, putT_n, putT_t, putTs_n, putTs_c, putAll_n, putAll_c, wipe_n, wipe_c, List.map_cons, List.map_nil, List.set_cons_succ, List.set_cons_zero, Option.bind_some, Option.map_some, Option.map_none, op2_add, op2_addT, op2_addL, op2_sub, op2_mul, op2_fdiv, op2_mod, cm2_lt, cm2_le, cm2_gt, cm2_ge, bi_lenL, bi_lenT, bi_tupL, bi_tupT, bi_lstL, bi_lstT, bi_int, bi_bool, bi_abs, bi_max, bi_min, bi_sum, bi_all, seqOf_l, seqOf_t, bi_sorted, bi_repr, iop_a, iop_s, iop_m, itemsL, itemsT, ty1, ty2, ty3, ty4, ty5, ty6, ty7, ty8, ty9, ty10, isN0, isN1, isN2, isN3, isN4, isN5, decide_eq_true_eq, if_true, Bool.true_or, Bool.or_true, Bool.true_and, Bool.and_true, Bool.false_eq_true, if_false, noL_int, noL_bool, noL_tup, noLs_nil, noLs_cons, pints_map, pbools_map, Option.map_some, Bool.or_self, Bool.and_self, Bool.or_false, Bool.false_or, noLs_ints, ix0, ix1, ix2, frC_bool, frC_tup, frC_lst, biFr_tup, biFr_lst, biFr_int, frN_lst, frN_tup, frN_bool, cut2, slD_t, slD_l, true_and, and_true]
          refine pick_ok hp hW (by decide) fun c s' c0 c1 c2 => ?_
          simp only [wss_nil, wss_one, w_ifs, w_ret, w_retN, w_pass, w_drop, w_sSet, w_sPop, we_var, we_none, we_tru, we_fls, we_int, we_str, we_op, we_neg, we_cmp, we_chain, we_isN, we_notN, we_isT, we_notT, we_not, we_and, we_or, we_ite, we_tup, we_lst, we_ix, we_sl, we_rev, we_bi, we_isi, we_call, we_lc, we_sInt, we_sCnt, wc_no, wc_so, wo_no, wo_so, ws_nil, ws_cons, ws_star, wi_val, wi_rg1, wi_rg2, wi_enum, wi_zip, wi_zips, we_idx, we_rl1, we_rl2, putX_nil, putX_no, wt_turn, O1_some, O2_some, O3_some, O1_ite, asB_b, asI_i, frC_int, frN_int, vals_nil, vals_cons, getV_zero, getV_succ, asgT_n, asgT_t, asgTs_n, asgTs_c, putT_n, putT_t, putTs_n, putTs_c, putAll_n, putAll_c, wipe_n, wipe_c, List.map_cons, List.map_nil, List.set_cons_succ, List.set_cons_zero, Option.bind_some, Option.map_some, Option.map_none, op2_add, op2_addT, op2_addL, op2_sub, op2_mul, op2_fdiv, op2_mod, cm2_lt, cm2_le, cm2_gt, cm2_ge, bi_lenL, bi_lenT, bi_tupL, bi_tupT, bi_lstL, bi_lstT, bi_int, bi_bool, bi_abs, bi_max, bi_min, bi_sum, bi_all, seqOf_l, seqOf_t, bi_sorted, bi_repr, iop_a, iop_s, iop_m, itemsL, itemsT, ty1, ty2, ty3, ty4, ty5, ty6, ty7, ty8, ty9, ty10, isN0, isN1, isN2, isN3, isN4, isN5, decide_eq_true_eq, if_true, Bool.true_or, Bool.or_true, Bool.true_and, Bool.and_true, Bool.false_eq_true, if_false, noL_int, noL_bool, noL_tup, noLs_nil, noLs_cons, pints_map, pbools_map, Option.map_some, Bool.or_self, Bool.and_self, Bool.or_false, Bool.false_or, noLs_ints, ix0, ix1, ix2, frC_bool, frC_tup, frC_lst, biFr_tup, biFr_lst, biFr_int, frN_lst, frN_tup, frN_bool, cut2, slD_t, slD_l, true_and, and_true]
          split
          · exact ⟨-1, .inr rfl, rfl⟩
          · exact ⟨sg, hs, rfl⟩
        · exact ⟨sg, hs, rfl⟩
      clear hs
      rintro ⟨env, s6⟩ ⟨sg, hs, he⟩
      simp only at he
      subst he
      rw [wss_one]
      have g1 : ixD (ns.map .int) a = _ := ixD_ints ha.1 (by omega)
      have g2 : ixD (ns.map .int) b = _ := ixD_ints hb.1 (by omega)
      have p1 := getD_all e2 (i := a.toNat) (by omega)
      have p2 := getD_all e2 (i := b.toNat) (by omega)
      refine w_append ⟨_, rfl, ?_⟩
      simp only [wss_nil, wss_one, w_ifs, w_ret, w_retN, w_pass, w_drop, w_sSet, w_sPop, we_var, we_none, we_tru, we_fls, we_int, we_str, we_op, we_neg, we_cmp, we_chain, we_isN, we_notN, we_isT, we_notT, we_not, we_and, we_or, we_ite, we_tup, we_lst, we_ix, we_sl, we_rev, we_bi, we_isi, we_call, we_lc, we_sInt, we_sCnt, wc_no, wc_so, wo_no, wo_so, ws_nil, ws_cons, ws_star, wi_val, wi_rg1, wi_rg2, wi_enum, wi_zip, wi_zips, we_idx, we_rl1, we_rl2, putX_nil, putX_no, wt_turn, O1_some, O2_some, O3_some, O1_ite, asB_b, asI_i, frC_int, frN_int, vals_nil, vals_cons, getV_zero, getV_succ, asgT_n, asgT_t, asgTs_n, asgTs_c, putT_n, putT_t, putTs_n, putTs_c, putAll_n, putAll_c, wipe_n, wipe_c, List.map_cons, List.map_nil, List.set_cons_succ, List.set_cons_zero, Option.bind_some, Option.map_some, Option.map_none, op2_add, op2_addT, op2_addL, op2_sub, op2_mul, op2_fdiv, op2_mod, cm2_lt, cm2_le, cm2_gt, cm2_ge, bi_lenL, bi_lenT, bi_tupL, bi_tupT, bi_lstL, bi_lstT, bi_int, bi_bool, bi_abs, bi_max, bi_min, bi_sum, bi_all, seqOf_l, seqOf_t, bi_sorted, bi_repr, iop_a, iop_s, iop_m, itemsL, itemsT, ty1, ty2, ty3, ty4, ty5, ty6, ty7, ty8, ty9, ty10, isN0, isN1, isN2, isN3, isN4, isN5, decide_eq_true_eq, if_true, Bool.true_or, Bool.or_true, Bool.true_and, Bool.and_true, Bool.false_eq_true, if_false, noL_int, noL_bool, noL_tup, noLs_nil, noLs_cons, pints_map, pbools_map, Option.map_some, Bool.or_self, Bool.and_self, Bool.or_false, Bool.false_or, noLs_ints, ix0, ix1, ix2, frC_bool, frC_tup, frC_lst, biFr_tup, biFr_lst, biFr_int, frN_lst, frN_tup, frN_bool, cut2, slD_t, slD_l, true_and, and_true, g1, g2]
      refine ⟨fits_of (by simp), fits_of (by rw [List.length_map]; omega), rs ++ [(ns.getD a.toNat 0, ns.getD b.toNat 0, sg)], x6, some (.int a, true), some (.int b, true), some (.int sg, true), by simp; omega, fun r hm => ?_, by simp [eR]⟩
      rcases List.mem_append.mp hm with hm | hm
      · exact hr r hm
      · rw [List.mem_singleton.mp hm]
        exact ⟨p1.1, p1.2, p2.1, p2.2, hs⟩
    · rintro st ⟨rs, x6, x7, x8, x9, hl, hr, he⟩
      exact ⟨rs, x6, x7, x8, x9, by simpa using hl, hr, he⟩
  rintro ⟨env, s3⟩ ⟨rs, x6, x7, x8, x9, hl, hr, he⟩
  simp only at he
  subst he
  simp only [wss_nil, wss_one, w_ifs, w_ret, w_retN, w_pass, w_drop, w_sSet, w_sPop, we_var, we_none, we_tru, we_fls, we_int, we_str, we_op, we_neg, we_cmp, we_chain, we_isN, we_notN, we_isT, we_notT, we_not, we_and, we_or, we_ite, we_tup, we_lst, we_ix, we_sl, we_rev, we_bi, we_isi, we_call, we_lc, we_sInt, we_sCnt, wc_no, wc_so, wo_no, wo_so, ws_nil, ws_cons, ws_star, wi_val, wi_rg1, wi_rg2, wi_enum, wi_zip, wi_zips, we_idx, we_rl1, we_rl2, putX_nil, putX_no, wt_turn, O1_some, O2_some, O3_some, O1_ite, asB_b, asI_i, frC_int, frN_int, vals_nil, vals_cons, getV_zero, getV_succ, asgT_n, asgT_t, asgTs_n, asgTs_c, putT_n, putT_t, putTs_n, putTs_c, putAll_n, putAll_c, wipe_n, wipe_c, List.map_cons, List.map_nil, List.set_cons_succ, List.set_cons_zero, Option.bind_some, Option.map_some, Option.map_none, op2_add, op2_addT, op2_addL, op2_sub, op2_mul, op2_fdiv, op2_mod, cm2_lt, cm2_le, cm2_gt, cm2_ge, bi_lenL, bi_lenT, bi_tupL, bi_tupT, bi_lstL, bi_lstT, bi_int, bi_bool, bi_abs, bi_max, bi_min, bi_sum, bi_all, seqOf_l, seqOf_t, bi_sorted, bi_repr, iop_a, iop_s, iop_m, itemsL, itemsT, ty1, ty2, ty3, ty4, ty5, ty6, ty7, ty8, ty9, ty10, isN0, isN1, isN2, isN3, isN4, isN5, decide_eq_true_eq, if_true, Bool.true_or, Bool.or_true, Bool.true_and, Bool.and_true, Bool.false_eq_true, if_false, noL_int, noL_bool, noL_tup, noLs_nil, noLs_cons, pints_map, pbools_map, Option.map_some, Bool.or_self, Bool.and_self, Bool.or_false, Bool.false_or, noLs_ints, ix0, ix1, ix2, frC_bool, frC_tup, frC_lst, biFr_tup, biFr_lst, biFr_int, frN_lst, frN_tup, frN_bool, cut2, slD_t, slD_l, true_and, and_true]
  exact ⟨fits_of (by simp), q n rs _ ⟨n1, by omega, hl, hr⟩⟩
end
end PV

namespace K58
open PySem PySem.Spec PyProof.Rows L2 PV
/-! ### the text, compiled -/
/-- is_sign -/
def f0 : DefC := ⟨⟨"is_sign", ["value"], false⟩, ["value"], .cons (.ret (.and (.isi .int (.var 0)) (.and (.not (.isi .bool (.var 0))) (.cmp .inn (.var 0) (.tup (.cons (.int 1) (.cons (.neg (.int 1)) (.nil)))))))) (.nil)⟩
/-- is_arrows -/
def f1 : DefC := ⟨⟨"is_arrows", ["frame", "value"], false⟩, ["frame", "value", "one"], .cons (.ret (.and (.isi .tuple (.var 1)) (.and (.cmp .eq (.bi .len (.var 1) (.nil)) (.bi .len (.ix (.var 0) (.int 1)) (.nil))) (.bi .all (.lc [("one", 2)] (.name 2) (.val (.var 1)) (.no) (.call 0 (.cons (.var 2) (.nil)))) (.nil))))) (.nil)⟩
/-- arrow_ends -/
def f2 : DefC := ⟨⟨"arrow_ends", ["frame", "arrows"], false⟩, ["frame", "arrows", "road", "mark"], .cons (.ret (.bi .tuple (.lc [("road", 2), ("mark", 3)] (.tup (.cons (.name 2) (.cons (.name 3) (.nil)))) (.zips (.ix (.var 0) (.int 1)) (.var 1)) (.no) (.tup (.cons (.var 3) (.cons (.op .mul (.neg (.ix (.var 2) (.int 2))) (.var 3)) (.nil))))) (.nil))) (.nil)⟩
/-- readings_of -/
def f3 : DefC := ⟨⟨"readings_of", ["frame", "heights"], false⟩, ["frame", "heights", "a", "b", "sign"], .cons (.ret (.bi .tuple (.lc [("a", 2), ("b", 3), ("sign", 4)] (.tup (.cons (.name 2) (.cons (.name 3) (.cons (.name 4) (.nil))))) (.val (.ix (.var 0) (.int 1))) (.no) (.op .sub (.ix (.var 1) (.var 2)) (.op .mul (.var 4) (.ix (.var 1) (.var 3))))) (.nil))) (.nil)⟩
/-- arrows_of_heights -/
def f4 : DefC := ⟨⟨"arrows_of_heights", ["frame", "heights"], false⟩, ["frame", "heights", "readings", "number"], .cons (.asg 2 [0, 1] (.call 3 (.cons (.var 0) (.cons (.var 1) (.nil))))) (.cons (.ret (.ite (.cmp .nin (.int 0) (.var 2)) (.bi .tuple (.lc [("number", 3)] (.name 3) (.val (.var 2)) (.no) (.ite (.cmp .gt (.var 3) (.int 0)) (.int 1) (.neg (.int 1)))) (.nil)) (.none))) (.nil))⟩
/-- goes_along -/
def f5 : DefC := ⟨⟨"goes_along", ["arrows", "row"], false⟩, ["arrows", "row", "mark", "number"], .cons (.ret (.cmp .eq (.lc [("mark", 2), ("number", 3)] (.tup (.cons (.name 2) (.cons (.name 3) (.nil)))) (.zips (.var 0) (.var 1)) (.so (.cmp .lt (.op .mul (.var 2) (.var 3)) (.int 0))) (.int 1)) (.lst (.nil)))) (.nil)⟩
/-- _law_pick -/
def f6 : DefC := ⟨⟨"_law_pick", ["source", "many"], true⟩, ["source", "many", "left", "mixed"], .cons (.wh (.and (.cmp .gt (.var 1) (.int 1)) (.and (.cmp .lt (.sInt .left) (.int 2)) (.cmp .gt (.sCnt) (.int 0)))) (.cons (.sPop) (.nil))) (.cons (.asg 2 [] (.sInt .left)) (.cons (.ifs (.or (.cmp .lt (.var 1) (.int 2)) (.cmp .gt (.var 2) (.int 1))) (.cons (.sSet .left (.op .fdiv (.var 2) (.bi .max (.int 1) (.cons (.var 1) (.nil))))) (.cons (.ret (.op .mod (.bi .int (.var 2) (.nil)) (.bi .max (.int 1) (.cons (.var 1) (.nil))))) (.nil))) (.nil)) (.cons (.sSet .turn (.op .add (.sInt .turn) (.int 1))) (.cons (.asg 3 [] (.op .mod (.bi .int (.op .add (.sInt .mixed) (.op .mul (.sInt .turn) (.int 104729))) (.nil)) (.int 998244353))) (.cons (.asg 3 [] (.op .mod (.bi .int (.op .add (.op .mul (.var 3) (.var 3)) (.op .mul (.sInt .turn) (.int 17))) (.nil)) (.int 2147483647))) (.cons (.sSet .mixed (.var 3)) (.cons (.ret (.op .mod (.bi .int (.op .fdiv (.var 3) (.int 16)) (.nil)) (.var 1))) (.nil))))))))⟩
/-- _law_of -/
def f7 : DefC := ⟨⟨"_law_of", ["source", "some"], true⟩, ["source", "some"], .cons (.ret (.ix (.var 1) (.call 6 (.cons (.bi .len (.var 1) (.nil)) (.nil))))) (.nil)⟩
/-- _law_mixed -/
def f8 : DefC := ⟨⟨"_law_mixed", ["source", "things"], true⟩, ["source", "things", "rest", "lap"], .cons (.asg 2 [1] (.bi .list (.var 1) (.nil))) (.cons (.retMix [("lap", 3)] 3 2 6) (.nil))⟩
/-- _law_frame -/
def f9 : DefC := ⟨⟨"_law_frame", ["source", "most", "many"], true⟩, ["source", "most", "many", "n", "roads", "names", "lap", "a", "b", "sign"], .cons (.par [3, 4] (.cons (.op .add (.int 1) (.call 6 (.cons (.var 1) (.nil)))) (.cons (.lst (.nil)) (.nil)))) (.cons (.asg 5 [3] (.call 8 (.cons (.rl1 false (.var 3)) (.nil)))) (.cons (.fort (.name 6) [2] (.rg1 (.call 6 (.cons (.op .add (.var 2) (.int 1)) (.nil)))) (.cons (.par [7, 8, 9] (.cons (.call 6 (.cons (.var 3) (.nil))) (.cons (.call 6 (.cons (.var 3) (.nil))) (.cons (.call 7 (.cons (.lst (.cons (.int 1) (.cons (.neg (.int 1)) (.nil)))) (.nil))) (.nil))))) (.cons (.ifs (.and (.cmp .eq (.var 7) (.var 8)) (.cmp .gt (.call 6 (.cons (.int 3) (.nil))) (.int 0))) (.cons (.asg 8 [3, 7] (.op .sub (.op .sub (.var 3) (.int 1)) (.var 7))) (.nil)) (.nil)) (.cons (.ifs (.cmp .eq (.var 7) (.var 8)) (.cons (.asg 9 [9] (.ite (.cmp .gt (.call 6 (.cons (.int 6) (.nil))) (.int 0)) (.neg (.int 1)) (.var 9))) (.nil)) (.nil)) (.cons (.append 4 (.tup (.cons (.ix (.var 5) (.var 7)) (.cons (.ix (.var 5) (.var 8)) (.cons (.var 9) (.nil)))))) (.nil)))))) (.cons (.ret (.tup (.cons (.var 3) (.cons (.bi .tuple (.var 4) (.nil)) (.nil))))) (.nil))))⟩
/-- _law_readings -/
def f10 : DefC := ⟨⟨"_law_readings", ["frame", "heights"], false⟩, ["frame", "heights", "a", "b", "s"], .cons (.ret (.bi .tuple (.lc [("a", 2), ("b", 3), ("s", 4)] (.tup (.cons (.name 2) (.cons (.name 3) (.cons (.name 4) (.nil))))) (.val (.ix (.var 0) (.int 1))) (.no) (.op .sub (.ix (.var 1) (.var 2)) (.op .mul (.var 4) (.ix (.var 1) (.var 3))))) (.nil))) (.nil)⟩
/-- _law_arrows -/
def f11 : DefC := ⟨⟨"_law_arrows", ["frame", "heights"], false⟩, ["frame", "heights", "readings", "x"], .cons (.asg 2 [0, 1] (.call 10 (.cons (.var 0) (.cons (.var 1) (.nil))))) (.cons (.ret (.ite (.cmp .inn (.int 0) (.var 2)) (.none) (.bi .tuple (.lc [("x", 3)] (.name 3) (.val (.var 2)) (.no) (.ite (.cmp .gt (.var 3) (.int 0)) (.int 1) (.neg (.int 1)))) (.nil)))) (.nil))⟩
/-- _law_is_along -/
def f12 : DefC := ⟨⟨"_law_is_along", ["arrows", "row"], false⟩, ["arrows", "row", "mark", "z"], .cons (.ret (.cmp .eq (.lc [("mark", 2), ("z", 3)] (.tup (.cons (.name 2) (.cons (.name 3) (.nil)))) (.zip (.var 0) (.var 1)) (.so (.cmp .lt (.op .mul (.var 2) (.var 3)) (.int 0))) (.int 1)) (.lst (.nil)))) (.nil)⟩
/-- _law_marks -/
def f13 : DefC := ⟨⟨"_law_marks", ["source", "many"], true⟩, ["source", "many", "r"], .cons (.ret (.bi .tuple (.lc [("r", 2)] (.name 2) (.rg1 (.var 1)) (.no) (.call 7 (.cons (.lst (.cons (.int 1) (.cons (.neg (.int 1)) (.nil)))) (.nil)))) (.nil))) (.nil)⟩
/-- _law_is_marks -/
def f14 : DefC := ⟨⟨"_law_is_marks", ["value", "many"], false⟩, ["value", "many", "x"], .cons (.ifs (.or (.not (.isi .tuple (.var 0))) (.cmp .ne (.bi .len (.var 0) (.nil)) (.var 1))) (.cons (.ret (.fls)) (.nil)) (.nil)) (.cons (.ret (.cmp .eq (.lc [("x", 2)] (.name 2) (.val (.var 0)) (.so (.or (.not (.isi .int (.var 2))) (.or (.isi .bool (.var 2)) (.cmp .nin (.var 2) (.tup (.cons (.int 1) (.cons (.neg (.int 1)) (.nil)))))))) (.var 2)) (.lst (.nil)))) (.nil))⟩
def T : List DefC := [f0, f1, f2, f3, f4, f5, f6, f7, f8, f9, f10, f11, f12, f13, f14]
def lawN : List Str := ["script", "source", "lap", "frame", "n", "kept", "many", "marks", "ends", "a", "b", "s", "mark", "heights", "row", "drawn", "one", "k", "odd", "values", "value", "shown", "c", "r", "x"]
def lawC : CSs := .cons (.fort (.name 2) [] (.rg1 (.int 5)) (.cons (.asg 3 [] (.call 9 (.cons (.int 5) (.cons (.int 8) (.nil))))) (.cons (.parM [4, 5, 6] [3] (.cons (.ix (.var 3) (.int 0)) (.cons (.bi .repr (.var 3) (.nil)) (.cons (.bi .len (.ix (.var 3) (.int 1)) (.nil)) (.nil))))) (.cons (.asg 7 [6] (.call 13 (.cons (.var 6) (.nil)))) (.cons (.asg 8 [] (.lst (.nil))) (.cons (.fort (.tup (.cons (.tup (.cons (.name 9) (.cons (.name 10) (.cons (.name 11) (.nil))))) (.cons (.name 12) (.nil)))) [3, 7] (.zip (.ix (.var 3) (.int 1)) (.var 7)) (.cons (.append 8 (.tup (.cons (.var 12) (.cons (.ite (.cmp .lt (.var 11) (.int 0)) (.var 12) (.op .sub (.int 0) (.var 12))) (.nil))))) (.nil))) (.cons (.ifs (.cmp .ne (.bi .repr (.call 2 (.cons (.var 3) (.cons (.var 7) (.nil)))) (.nil)) (.bi .repr (.bi .tuple (.var 8) (.nil)) (.nil))) (.cons (.ret (.fls)) (.nil)) (.nil)) (.cons (.asg 13 [4] (.bi .tuple (.lc [("c", 22)] (.name 22) (.rg1 (.var 4)) (.no) (.op .sub (.call 6 (.cons (.int 9) (.nil))) (.int 4))) (.nil))) (.cons (.ifs (.cmp .ne (.bi .repr (.call 3 (.cons (.var 3) (.cons (.var 13) (.nil)))) (.nil)) (.bi .repr (.call 10 (.cons (.var 3) (.cons (.var 13) (.nil)))) (.nil))) (.cons (.ret (.fls)) (.nil)) (.nil)) (.cons (.ifs (.cmp .ne (.bi .repr (.call 4 (.cons (.var 3) (.cons (.var 13) (.nil)))) (.nil)) (.bi .repr (.call 11 (.cons (.var 3) (.cons (.var 13) (.nil)))) (.nil))) (.cons (.ret (.fls)) (.nil)) (.nil)) (.cons (.asg 14 [6] (.bi .tuple (.lc [("r", 23)] (.name 23) (.rg1 (.var 6)) (.no) (.op .sub (.call 6 (.cons (.int 5) (.nil))) (.int 2))) (.nil))) (.cons (.asg 15 [6, 7, 14] (.lst (.cons (.var 14) (.cons (.bi .tuple (.op .mul (.lst (.cons (.int 0) (.nil))) (.var 6)) (.nil)) (.cons (.var 7) (.cons (.bi .tuple (.lc [("x", 24)] (.name 24) (.val (.var 7)) (.no) (.op .sub (.int 0) (.var 24))) (.nil)) (.nil))))))) (.cons (.fort (.name 16) [15] (.val (.var 15)) (.cons (.ifs (.cmp .ne (.bi .repr (.call 5 (.cons (.var 7) (.cons (.var 16) (.nil)))) (.nil)) (.bi .repr (.call 12 (.cons (.var 7) (.cons (.var 16) (.nil)))) (.nil))) (.cons (.ret (.fls)) (.nil)) (.nil)) (.nil))) (.cons (.asg 17 [6] (.call 6 (.cons (.bi .max (.int 1) (.cons (.var 6) (.nil))) (.nil)))) (.cons (.asg 18 [] (.call 7 (.cons (.lst (.cons (.none) (.cons (.tru) (.cons (.int 0) (.cons (.int 2) (.cons (.str "1") (.cons (.tup (.cons (.int 1) (.nil))) (.cons (.lst (.cons (.int 1) (.nil))) (.cons (.neg (.int 1)) (.nil)))))))))) (.nil)))) (.cons (.asg 19 [7, 17, 18] (.lst (.cons (.var 7) (.cons (.bi .list (.var 7) (.nil)) (.cons (.sl (.var 7) (.so (.int 1)) (.no)) (.cons (.op .add (.var 7) (.tup (.cons (.int 1) (.nil)))) (.cons (.op .add (.op .add (.sl (.var 7) (.no) (.so (.var 17))) (.tup (.cons (.var 18) (.nil)))) (.sl (.var 7) (.so (.op .add (.var 17) (.int 1))) (.no))) (.cons (.var 18) (.cons (.none) (.cons (.tup (.nil)) (.nil))))))))))) (.cons (.fort (.name 20) [6, 19] (.val (.op .add (.var 19) (.lst (.cons (.op .mul (.tup (.cons (.tru) (.nil))) (.var 6)) (.cons (.op .mul (.tup (.cons (.int 0) (.nil))) (.var 6)) (.nil)))))) (.cons (.asg 21 [20] (.bi .repr (.var 20) (.nil))) (.cons (.ifs (.or (.cmp .ne (.bi .repr (.call 1 (.cons (.var 3) (.cons (.var 20) (.nil)))) (.nil)) (.bi .repr (.call 14 (.cons (.var 20) (.cons (.var 6) (.nil)))) (.nil))) (.cmp .ne (.bi .repr (.var 20) (.nil)) (.var 21))) (.cons (.ret (.fls)) (.nil)) (.nil)) (.nil)))) (.cons (.ifs (.cmp .ne (.bi .repr (.var 3) (.nil)) (.var 5)) (.cons (.ret (.fls)) (.nil)) (.nil)) (.nil))))))))))))))))))) (.cons (.ret (.cmp .eq (.call 4 (.cons (.tup (.cons (.int 1) (.cons (.tup (.cons (.tup (.cons (.int 0) (.cons (.int 0) (.cons (.neg (.int 1)) (.nil))))) (.nil))) (.nil)))) (.cons (.tup (.cons (.neg (.int 3)) (.nil))) (.nil)))) (.tup (.cons (.neg (.int 1)) (.nil))))) (.nil))
/-! ### the text is what was compiled -/
def top (i : Nat) : Stmt := PySem.Challenge.pw_signedframes_k58_whole_arrows_and_readin.main.body.getD i (.Pass ⟨0, 0, 0, 0⟩)
abbrev s0 : Stmt := top 1
def dd0 : He.DefD := ⟨("is_sign", none), "is_sign", "is_sign", defArgs s0, defBody s0, defScope s0, [], []⟩
abbrev s1 : Stmt := top 3
def dd1 : He.DefD := ⟨("is_arrows", none), "is_arrows", "is_arrows", defArgs s1, defBody s1, defScope s1, [], []⟩
abbrev s2 : Stmt := top 4
def dd2 : He.DefD := ⟨("arrow_ends", none), "arrow_ends", "arrow_ends", defArgs s2, defBody s2, defScope s2, [], []⟩
abbrev s3 : Stmt := top 5
def dd3 : He.DefD := ⟨("readings_of", none), "readings_of", "readings_of", defArgs s3, defBody s3, defScope s3, [], []⟩
abbrev s4 : Stmt := top 6
def dd4 : He.DefD := ⟨("arrows_of_heights", none), "arrows_of_heights", "arrows_of_heights", defArgs s4, defBody s4, defScope s4, [], []⟩
abbrev s5 : Stmt := top 7
def dd5 : He.DefD := ⟨("goes_along", none), "goes_along", "goes_along", defArgs s5, defBody s5, defScope s5, [], []⟩
abbrev s6 : Stmt := top 10
def dd6 : He.DefD := ⟨("_law_pick", none), "_law_pick", "_law_pick", defArgs s6, defBody s6, defScope s6, [], []⟩
abbrev s7 : Stmt := top 11
def dd7 : He.DefD := ⟨("_law_of", none), "_law_of", "_law_of", defArgs s7, defBody s7, defScope s7, [], []⟩
abbrev s8 : Stmt := top 12
def dd8 : He.DefD := ⟨("_law_mixed", none), "_law_mixed", "_law_mixed", defArgs s8, defBody s8, defScope s8, [], []⟩
abbrev s9 : Stmt := top 13
def dd9 : He.DefD := ⟨("_law_frame", none), "_law_frame", "_law_frame", defArgs s9, defBody s9, defScope s9, [], []⟩
abbrev s10 : Stmt := top 14
def dd10 : He.DefD := ⟨("_law_readings", none), "_law_readings", "_law_readings", defArgs s10, defBody s10, defScope s10, [], []⟩
abbrev s11 : Stmt := top 15
def dd11 : He.DefD := ⟨("_law_arrows", none), "_law_arrows", "_law_arrows", defArgs s11, defBody s11, defScope s11, [], []⟩
abbrev s12 : Stmt := top 16
def dd12 : He.DefD := ⟨("_law_is_along", none), "_law_is_along", "_law_is_along", defArgs s12, defBody s12, defScope s12, [], []⟩
abbrev s13 : Stmt := top 17
def dd13 : He.DefD := ⟨("_law_marks", none), "_law_marks", "_law_marks", defArgs s13, defBody s13, defScope s13, [], []⟩
abbrev s14 : Stmt := top 18
def dd14 : He.DefD := ⟨("_law_is_marks", none), "_law_is_marks", "_law_is_marks", defArgs s14, defBody s14, defScope s14, [], []⟩
abbrev sS : Stmt := top 9
def ddS : He.DefD := ⟨("_law_source", none), "_law_source", "_law_source", defArgs sS, defBody sS, defScope sS, [], []⟩
abbrev sL : Stmt := top 19
def ddL : He.DefD := ⟨("law", none), "law", "law", defArgs sL, defBody sL, defScope sL, [], []⟩
def fnl : List He.DefD := [dd0, dd1, dd2, dd3, dd4, dd5, dd6, dd7, dd8, dd9, dd10, dd11, dd12, dd13, dd14, ddS, ddL]
def fal : List He.Fa := [.glo "is_sign", .glo "is_arrows", .glo "arrow_ends", .glo "readings_of", .glo "arrows_of_heights", .glo "goes_along", .glo "_law_pick", .glo "_law_of", .glo "_law_mixed", .glo "_law_frame", .glo "_law_readings", .glo "_law_arrows", .glo "_law_is_along", .glo "_law_marks", .glo "_law_is_marks", .glo "_law_source", .glo "law"] ++ bnames.map .free
theorem ok0 : okDef (fis T) f0 (defScope s0) (defBody s0) = true := by kernel_rfl
theorem ok1 : okDef (fis T) f1 (defScope s1) (defBody s1) = true := by kernel_rfl
theorem ok2 : okDef (fis T) f2 (defScope s2) (defBody s2) = true := by kernel_rfl
theorem ok3 : okDef (fis T) f3 (defScope s3) (defBody s3) = true := by kernel_rfl
theorem ok4 : okDef (fis T) f4 (defScope s4) (defBody s4) = true := by kernel_rfl
theorem ok5 : okDef (fis T) f5 (defScope s5) (defBody s5) = true := by kernel_rfl
theorem ok6 : okDef (fis T) f6 (defScope s6) (defBody s6) = true := by kernel_rfl
theorem ok7 : okDef (fis T) f7 (defScope s7) (defBody s7) = true := by kernel_rfl
theorem ok8 : okDef (fis T) f8 (defScope s8) (defBody s8) = true := by kernel_rfl
theorem ok9 : okDef (fis T) f9 (defScope s9) (defBody s9) = true := by kernel_rfl
theorem ok10 : okDef (fis T) f10 (defScope s10) (defBody s10) = true := by kernel_rfl
theorem ok11 : okDef (fis T) f11 (defScope s11) (defBody s11) = true := by kernel_rfl
theorem ok12 : okDef (fis T) f12 (defScope s12) (defBody s12) = true := by kernel_rfl
theorem ok13 : okDef (fis T) f13 (defScope s13) (defBody s13) = true := by kernel_rfl
theorem ok14 : okDef (fis T) f14 (defScope s14) (defBody s14) = true := by kernel_rfl
section
variable {K : PySem.W.Frag} {h : Heap} {mg : Str → Option Value} (X : K.In h) (G : h.Ns mainGlobals mg) (c : He.SaysD fal fnl K)
include X G c
theorem def0 : DefOk K mg (fis T) f0 := by
  obtain ⟨fd, F⟩ := c.def_ 0 (d := dd0) rfl
  exact ⟨_, fd, _, _, _, _, _, He.glo_ok X G (c.fact 0 (f := .glo "is_sign") rfl), FunD.bindsN (ps := f0.fi.ps) F (fun _ _ _ _ _ _ us hl => match us, hl with | [_], _ => rfl), F, ok0⟩
theorem def1 : DefOk K mg (fis T) f1 := by
  obtain ⟨fd, F⟩ := c.def_ 1 (d := dd1) rfl
  exact ⟨_, fd, _, _, _, _, _, He.glo_ok X G (c.fact 1 (f := .glo "is_arrows") rfl), FunD.bindsN (ps := f1.fi.ps) F (fun _ _ _ _ _ _ us hl => match us, hl with | [_, _], _ => rfl), F, ok1⟩
theorem def2 : DefOk K mg (fis T) f2 := by
  obtain ⟨fd, F⟩ := c.def_ 2 (d := dd2) rfl
  exact ⟨_, fd, _, _, _, _, _, He.glo_ok X G (c.fact 2 (f := .glo "arrow_ends") rfl), FunD.bindsN (ps := f2.fi.ps) F (fun _ _ _ _ _ _ us hl => match us, hl with | [_, _], _ => rfl), F, ok2⟩
theorem def3 : DefOk K mg (fis T) f3 := by
  obtain ⟨fd, F⟩ := c.def_ 3 (d := dd3) rfl
  exact ⟨_, fd, _, _, _, _, _, He.glo_ok X G (c.fact 3 (f := .glo "readings_of") rfl), FunD.bindsN (ps := f3.fi.ps) F (fun _ _ _ _ _ _ us hl => match us, hl with | [_, _], _ => rfl), F, ok3⟩
theorem def4 : DefOk K mg (fis T) f4 := by
  obtain ⟨fd, F⟩ := c.def_ 4 (d := dd4) rfl
  exact ⟨_, fd, _, _, _, _, _, He.glo_ok X G (c.fact 4 (f := .glo "arrows_of_heights") rfl), FunD.bindsN (ps := f4.fi.ps) F (fun _ _ _ _ _ _ us hl => match us, hl with | [_, _], _ => rfl), F, ok4⟩
theorem def5 : DefOk K mg (fis T) f5 := by
  obtain ⟨fd, F⟩ := c.def_ 5 (d := dd5) rfl
  exact ⟨_, fd, _, _, _, _, _, He.glo_ok X G (c.fact 5 (f := .glo "goes_along") rfl), FunD.bindsN (ps := f5.fi.ps) F (fun _ _ _ _ _ _ us hl => match us, hl with | [_, _], _ => rfl), F, ok5⟩
theorem def6 : DefOk K mg (fis T) f6 := by
  obtain ⟨fd, F⟩ := c.def_ 6 (d := dd6) rfl
  exact ⟨_, fd, _, _, _, _, _, He.glo_ok X G (c.fact 6 (f := .glo "_law_pick") rfl), FunD.bindsN (ps := f6.fi.ps) F (fun _ _ _ _ _ _ us hl => match us, hl with | [_, _], _ => rfl), F, ok6⟩
theorem def7 : DefOk K mg (fis T) f7 := by
  obtain ⟨fd, F⟩ := c.def_ 7 (d := dd7) rfl
  exact ⟨_, fd, _, _, _, _, _, He.glo_ok X G (c.fact 7 (f := .glo "_law_of") rfl), FunD.bindsN (ps := f7.fi.ps) F (fun _ _ _ _ _ _ us hl => match us, hl with | [_, _], _ => rfl), F, ok7⟩
theorem def8 : DefOk K mg (fis T) f8 := by
  obtain ⟨fd, F⟩ := c.def_ 8 (d := dd8) rfl
  exact ⟨_, fd, _, _, _, _, _, He.glo_ok X G (c.fact 8 (f := .glo "_law_mixed") rfl), FunD.bindsN (ps := f8.fi.ps) F (fun _ _ _ _ _ _ us hl => match us, hl with | [_, _], _ => rfl), F, ok8⟩
theorem def9 : DefOk K mg (fis T) f9 := by
  obtain ⟨fd, F⟩ := c.def_ 9 (d := dd9) rfl
  exact ⟨_, fd, _, _, _, _, _, He.glo_ok X G (c.fact 9 (f := .glo "_law_frame") rfl), FunD.bindsN (ps := f9.fi.ps) F (fun _ _ _ _ _ _ us hl => match us, hl with | [_, _, _], _ => rfl), F, ok9⟩
theorem def10 : DefOk K mg (fis T) f10 := by
  obtain ⟨fd, F⟩ := c.def_ 10 (d := dd10) rfl
  exact ⟨_, fd, _, _, _, _, _, He.glo_ok X G (c.fact 10 (f := .glo "_law_readings") rfl), FunD.bindsN (ps := f10.fi.ps) F (fun _ _ _ _ _ _ us hl => match us, hl with | [_, _], _ => rfl), F, ok10⟩
theorem def11 : DefOk K mg (fis T) f11 := by
  obtain ⟨fd, F⟩ := c.def_ 11 (d := dd11) rfl
  exact ⟨_, fd, _, _, _, _, _, He.glo_ok X G (c.fact 11 (f := .glo "_law_arrows") rfl), FunD.bindsN (ps := f11.fi.ps) F (fun _ _ _ _ _ _ us hl => match us, hl with | [_, _], _ => rfl), F, ok11⟩
theorem def12 : DefOk K mg (fis T) f12 := by
  obtain ⟨fd, F⟩ := c.def_ 12 (d := dd12) rfl
  exact ⟨_, fd, _, _, _, _, _, He.glo_ok X G (c.fact 12 (f := .glo "_law_is_along") rfl), FunD.bindsN (ps := f12.fi.ps) F (fun _ _ _ _ _ _ us hl => match us, hl with | [_, _], _ => rfl), F, ok12⟩
theorem def13 : DefOk K mg (fis T) f13 := by
  obtain ⟨fd, F⟩ := c.def_ 13 (d := dd13) rfl
  exact ⟨_, fd, _, _, _, _, _, He.glo_ok X G (c.fact 13 (f := .glo "_law_marks") rfl), FunD.bindsN (ps := f13.fi.ps) F (fun _ _ _ _ _ _ us hl => match us, hl with | [_, _], _ => rfl), F, ok13⟩
theorem def14 : DefOk K mg (fis T) f14 := by
  obtain ⟨fd, F⟩ := c.def_ 14 (d := dd14) rfl
  exact ⟨_, fd, _, _, _, _, _, He.glo_ok X G (c.fact 14 (f := .glo "_law_is_marks") rfl), FunD.bindsN (ps := f14.fi.ps) F (fun _ _ _ _ _ _ us hl => match us, hl with | [_, _], _ => rfl), F, ok14⟩
theorem defsOk : ∀ (i : Nat) d, T[i]? = some d → DefOk K mg (fis T) d := by
  intro i d hd
  have hd := List.mem_of_getElem? hd
  rcases List.mem_cons.mp hd with rfl | hd
  · exact def0 X G c
  rcases List.mem_cons.mp hd with rfl | hd
  · exact def1 X G c
  rcases List.mem_cons.mp hd with rfl | hd
  · exact def2 X G c
  rcases List.mem_cons.mp hd with rfl | hd
  · exact def3 X G c
  rcases List.mem_cons.mp hd with rfl | hd
  · exact def4 X G c
  rcases List.mem_cons.mp hd with rfl | hd
  · exact def5 X G c
  rcases List.mem_cons.mp hd with rfl | hd
  · exact def6 X G c
  rcases List.mem_cons.mp hd with rfl | hd
  · exact def7 X G c
  rcases List.mem_cons.mp hd with rfl | hd
  · exact def8 X G c
  rcases List.mem_cons.mp hd with rfl | hd
  · exact def9 X G c
  rcases List.mem_cons.mp hd with rfl | hd
  · exact def10 X G c
  rcases List.mem_cons.mp hd with rfl | hd
  · exact def11 X G c
  rcases List.mem_cons.mp hd with rfl | hd
  · exact def12 X G c
  rcases List.mem_cons.mp hd with rfl | hd
  · exact def13 X G c
  rcases List.mem_cons.mp hd with rfl | hd
  · exact def14 X G c
  cases hd
theorem glOk : ∀ b ∈ bnames, mg b = none := by
  intro b hb
  obtain ⟨j, hj⟩ := List.mem_iff_getElem?.mp hb
  exact He.free_ok X G (c.fact (17 + j) (f := .free b) (by unfold fal; rw [List.getElem?_append_right (by simp)]; simp [hj]))
end
theorem lawScope : fnScB lawN ["script"] (defScope sL) = true := by kernel_rfl
theorem srcScope : fnScB srcN ["script"] (defScope sS) = true := by kernel_rfl
theorem lawNames : (atN lawN 1 "source" && isVis (defScope sL) "script" && asnB lawN none (defScope sL) "source" && isGl (defScope sL) "_law_source") = true := by kernel_rfl
theorem lawBody : chkSs (fis T) lawN (some 1) lawC (defScope sL) ((defBody sL).drop 1) = true := by kernel_rfl
theorem srcText : isSrcBody ⟨.function, [(".0", .local), ("cell", .local), ("abs", .globalImplicit)], false, false, []⟩ (defBody sS) := ⟨_, _, _, _, _, _, _, _, _, _, _, _, _, _, _, _, _, _, _, _, _, _, _, _, _, _, _, _, _, _, _, _, _, _, _, _, _, _, _, _, rfl⟩
theorem srcScope2 : srcScB (defScope sS) ⟨.function, [(".0", .local), ("cell", .local), ("abs", .globalImplicit)], false, false, []⟩ = true := by kernel_rfl
abbrev R : PySem.W.OpenRow := PySem.W.OpenLaw.row PySem.Challenge.rw_signedframes_k58_whole_arrows_and_readin
abbrev hk : PySem.W.Hook := He.hookD 4 fal fnl
def ob (s : PySem.W.SharedT) : He.AlD := He.obsDG 4 fal fnl (HandSHeadRun.getT s)
theorem ob_eq (s : PySem.W.SharedT) : ob s = hk.obs s.abs := He.obsDG_eq (HandSHeadRun.getT_eq s)
def names : List Str := (["is_sign", "is_arrows", "arrow_ends", "readings_of", "arrows_of_heights", "goes_along", "_law_source", "_law_pick", "_law_of", "_law_mixed", "_law_frame", "_law_readings", "_law_arrows", "_law_is_along", "_law_marks", "_law_is_marks"] : List Str)
theorem run (w : World) : HandSHeadRun.RunEq R (PySem.W.view R.prog [19]) hk ob 3000 names w := by
  intro os
  kernel_rfl
/-- a goal that nobody looks into -/
structure Box (p : Prop) : Prop where
  out : p
def W : Nat := 1000000
def lev : Nat := 40
theorem hW : 0 < W := by decide
theorem hPick : T[6]? = some pickD := rfl
theorem hOf : T[7]? = some (ofD 6) := rfl
theorem hMix : T[8]? = some (mixD 6) := rfl
theorem hFrame : T[9]? = some (frameD 6 7 8) := rfl
def eRow (r : List Int) : D := .tuple (r.map .int)
theorem noL_row {r : List Int} : noL (eRow r) = true := by simp only [eRow, wss_nil, wss_cons, w_ifs, w_ret, w_retN, w_pass, w_drop, w_sSet, w_sPop, we_var, we_none, we_tru, we_fls, we_int, we_str, we_op, we_neg, we_cmp, we_chain, we_isN, we_notN, we_isT, we_notT, we_not, we_and, we_or, we_ite, we_tup, we_lst, we_ix, we_sl, we_rev, we_bi, we_isi, we_call, we_lc, we_sInt, we_sCnt, wc_no, wc_so, wo_no, wo_so, ws_nil, ws_cons, ws_star, wi_val, wi_rg1, wi_rg2, wi_enum, wi_zip, wi_zips, we_idx, we_rl1, we_rl2, putX_nil, putX_no, wt_turn, O1_some, O2_some, O3_some, O1_ite, asB_b, asI_i, frC_int, frN_int, vals_nil, vals_cons, getV_zero, getV_succ, asgT_n, asgT_t, asgTs_n, asgTs_c, putT_n, putT_t, putTs_n, putTs_c, putAll_n, putAll_c, wipe_n, wipe_c, List.map_cons, List.map_nil, List.set_cons_succ, List.set_cons_zero, Option.bind_some, Option.map_some, Option.map_none, op2_add, op2_addT, op2_addL, op2_sub, op2_mul, op2_fdiv, op2_mod, cm2_lt, cm2_le, cm2_gt, cm2_ge, bi_lenL, bi_lenT, bi_tupL, bi_tupT, bi_lstL, bi_lstT, bi_int, bi_bool, bi_abs, bi_max, bi_min, bi_sum, bi_all, seqOf_l, seqOf_t, bi_sorted, bi_repr, iop_a, iop_s, iop_m, itemsL, itemsT, ty1, ty2, ty3, ty4, ty5, ty6, ty7, ty8, ty9, ty10, isN0, isN1, isN2, isN3, isN4, isN5, decide_eq_true_eq, if_true, Bool.true_or, Bool.or_true, Bool.true_and, Bool.and_true, Bool.false_eq_true, if_false, noL_int, noL_bool, noL_tup, noLs_nil, noLs_cons, pints_map, pbools_map, Option.map_some, Bool.or_self, Bool.and_self, Bool.or_false, Bool.false_or, noLs_ints, ix0, ix1, ix2, frC_bool, frC_tup, frC_lst, biFr_tup, biFr_lst, biFr_int, frN_lst, frN_tup, frN_bool, cut2, slD_t, slD_l, true_and, and_true]
/-! ### readings -/
def rd (hs : List Int) (r : Rd) : Int := hs.getD r.1.toNat 0 - r.2.2 * hs.getD r.2.1.toNat 0
section
variable {k : Nat} {s : Src} {Q : D → Src → Prop} {n : Int} {rs : List Rd} {hs : List Int}
theorem readings3 (h : okF 5 8 n rs) (hl : hs.length = n.toNat) (q : Q (eRow (rs.map (rd hs))) s) : O2 (callK T W (k + 1) 3 [eF n rs, eRow hs] s) Q := by
  refine call_ok (d := f3) rfl rfl ?_
  show WSs _ _ f3.body ⟨[some (eF n rs, noL (eF n rs)), some (eRow hs, noL (eRow hs)), none, none, none], s⟩ _
  obtain ⟨h1, h2, h3, h4⟩ := h
  unfold f3
  simp only [eF, eRow, wss_nil, wss_cons, w_ifs, w_ret, w_retN, w_pass, w_drop, w_sSet, w_sPop, we_var, we_none, we_tru, we_fls, we_int, we_str, we_op, we_neg, we_cmp, we_chain, we_isN, we_notN, we_isT, we_notT, we_not, we_and, we_or, we_ite, we_tup, we_lst, we_ix, we_sl, we_rev, we_bi, we_isi, we_call, we_lc, we_sInt, we_sCnt, wc_no, wc_so, wo_no, wo_so, ws_nil, ws_cons, ws_star, wi_val, wi_rg1, wi_rg2, wi_enum, wi_zip, wi_zips, we_idx, we_rl1, we_rl2, putX_nil, putX_no, wt_turn, O1_some, O2_some, O3_some, O1_ite, asB_b, asI_i, frC_int, frN_int, vals_nil, vals_cons, getV_zero, getV_succ, asgT_n, asgT_t, asgTs_n, asgTs_c, putT_n, putT_t, putTs_n, putTs_c, putAll_n, putAll_c, wipe_n, wipe_c, List.map_cons, List.map_nil, List.set_cons_succ, List.set_cons_zero, Option.bind_some, Option.map_some, Option.map_none, op2_add, op2_addT, op2_addL, op2_sub, op2_mul, op2_fdiv, op2_mod, cm2_lt, cm2_le, cm2_gt, cm2_ge, bi_lenL, bi_lenT, bi_tupL, bi_tupT, bi_lstL, bi_lstT, bi_int, bi_bool, bi_abs, bi_max, bi_min, bi_sum, bi_all, seqOf_l, seqOf_t, bi_sorted, bi_repr, iop_a, iop_s, iop_m, itemsL, itemsT, ty1, ty2, ty3, ty4, ty5, ty6, ty7, ty8, ty9, ty10, isN0, isN1, isN2, isN3, isN4, isN5, decide_eq_true_eq, if_true, Bool.true_or, Bool.or_true, Bool.true_and, Bool.and_true, Bool.false_eq_true, if_false, noL_int, noL_bool, noL_tup, noLs_nil, noLs_cons, pints_map, pbools_map, Option.map_some, Bool.or_self, Bool.and_self, Bool.or_false, Bool.false_or, noLs_ints, ix0, ix1, ix2, frC_bool, frC_tup, frC_lst, biFr_tup, biFr_lst, biFr_int, frN_lst, frN_tup, frN_bool, cut2, slD_t, slD_l, true_and, and_true, true_and]
  refine ⟨fits_of (by simp; omega), ?_⟩
  refine o3_map (fun r => .int (rd hs r)) (fun r hr => ?_) ?_
  · obtain ⟨g1, g2, g3, g4, g5⟩ := h4 r hr
    have e1 : ixD (hs.map .int) r.1 = _ := ixD_ints g1 (by omega)
    have e2 : ixD (hs.map .int) r.2.1 = _ := ixD_ints g3 (by omega)
    simp only [wss_nil, wss_cons, w_ifs, w_ret, w_retN, w_pass, w_drop, w_sSet, w_sPop, we_var, we_none, we_tru, we_fls, we_int, we_str, we_op, we_neg, we_cmp, we_chain, we_isN, we_notN, we_isT, we_notT, we_not, we_and, we_or, we_ite, we_tup, we_lst, we_ix, we_sl, we_rev, we_bi, we_isi, we_call, we_lc, we_sInt, we_sCnt, wc_no, wc_so, wo_no, wo_so, ws_nil, ws_cons, ws_star, wi_val, wi_rg1, wi_rg2, wi_enum, wi_zip, wi_zips, we_idx, we_rl1, we_rl2, putX_nil, putX_no, wt_turn, O1_some, O2_some, O3_some, O1_ite, asB_b, asI_i, frC_int, frN_int, vals_nil, vals_cons, getV_zero, getV_succ, asgT_n, asgT_t, asgTs_n, asgTs_c, putT_n, putT_t, putTs_n, putTs_c, putAll_n, putAll_c, wipe_n, wipe_c, List.map_cons, List.map_nil, List.set_cons_succ, List.set_cons_zero, Option.bind_some, Option.map_some, Option.map_none, op2_add, op2_addT, op2_addL, op2_sub, op2_mul, op2_fdiv, op2_mod, cm2_lt, cm2_le, cm2_gt, cm2_ge, bi_lenL, bi_lenT, bi_tupL, bi_tupT, bi_lstL, bi_lstT, bi_int, bi_bool, bi_abs, bi_max, bi_min, bi_sum, bi_all, seqOf_l, seqOf_t, bi_sorted, bi_repr, iop_a, iop_s, iop_m, itemsL, itemsT, ty1, ty2, ty3, ty4, ty5, ty6, ty7, ty8, ty9, ty10, isN0, isN1, isN2, isN3, isN4, isN5, decide_eq_true_eq, if_true, Bool.true_or, Bool.or_true, Bool.true_and, Bool.and_true, Bool.false_eq_true, if_false, noL_int, noL_bool, noL_tup, noLs_nil, noLs_cons, pints_map, pbools_map, Option.map_some, Bool.or_self, Bool.and_self, Bool.or_false, Bool.false_or, noLs_ints, ix0, ix1, ix2, frC_bool, frC_tup, frC_lst, biFr_tup, biFr_lst, biFr_int, frN_lst, frN_tup, frN_bool, cut2, slD_t, slD_l, true_and, and_true, eR, rd, e1, e2, mulOk_l (show r.2.2.natAbs < 2 ^ 64 by omega), true_and, and_self]
  · have e : (rs.map fun r => (.int (rd hs r) : D)) = (rs.map (rd hs)).map .int := by rw [List.map_map]; rfl
    rw [e]
    exact q
theorem readings10 (h : okF 5 8 n rs) (hl : hs.length = n.toNat) (q : Q (eRow (rs.map (rd hs))) s) : O2 (callK T W (k + 1) 10 [eF n rs, eRow hs] s) Q := by
  refine call_ok (d := f10) rfl rfl ?_
  show WSs _ _ f10.body ⟨[some (eF n rs, noL (eF n rs)), some (eRow hs, noL (eRow hs)), none, none, none], s⟩ _
  obtain ⟨h1, h2, h3, h4⟩ := h
  unfold f10
  simp only [eF, eRow, wss_nil, wss_cons, w_ifs, w_ret, w_retN, w_pass, w_drop, w_sSet, w_sPop, we_var, we_none, we_tru, we_fls, we_int, we_str, we_op, we_neg, we_cmp, we_chain, we_isN, we_notN, we_isT, we_notT, we_not, we_and, we_or, we_ite, we_tup, we_lst, we_ix, we_sl, we_rev, we_bi, we_isi, we_call, we_lc, we_sInt, we_sCnt, wc_no, wc_so, wo_no, wo_so, ws_nil, ws_cons, ws_star, wi_val, wi_rg1, wi_rg2, wi_enum, wi_zip, wi_zips, we_idx, we_rl1, we_rl2, putX_nil, putX_no, wt_turn, O1_some, O2_some, O3_some, O1_ite, asB_b, asI_i, frC_int, frN_int, vals_nil, vals_cons, getV_zero, getV_succ, asgT_n, asgT_t, asgTs_n, asgTs_c, putT_n, putT_t, putTs_n, putTs_c, putAll_n, putAll_c, wipe_n, wipe_c, List.map_cons, List.map_nil, List.set_cons_succ, List.set_cons_zero, Option.bind_some, Option.map_some, Option.map_none, op2_add, op2_addT, op2_addL, op2_sub, op2_mul, op2_fdiv, op2_mod, cm2_lt, cm2_le, cm2_gt, cm2_ge, bi_lenL, bi_lenT, bi_tupL, bi_tupT, bi_lstL, bi_lstT, bi_int, bi_bool, bi_abs, bi_max, bi_min, bi_sum, bi_all, seqOf_l, seqOf_t, bi_sorted, bi_repr, iop_a, iop_s, iop_m, itemsL, itemsT, ty1, ty2, ty3, ty4, ty5, ty6, ty7, ty8, ty9, ty10, isN0, isN1, isN2, isN3, isN4, isN5, decide_eq_true_eq, if_true, Bool.true_or, Bool.or_true, Bool.true_and, Bool.and_true, Bool.false_eq_true, if_false, noL_int, noL_bool, noL_tup, noLs_nil, noLs_cons, pints_map, pbools_map, Option.map_some, Bool.or_self, Bool.and_self, Bool.or_false, Bool.false_or, noLs_ints, ix0, ix1, ix2, frC_bool, frC_tup, frC_lst, biFr_tup, biFr_lst, biFr_int, frN_lst, frN_tup, frN_bool, cut2, slD_t, slD_l, true_and, and_true, true_and]
  refine ⟨fits_of (by simp; omega), ?_⟩
  refine o3_map (fun r => .int (rd hs r)) (fun r hr => ?_) ?_
  · obtain ⟨g1, g2, g3, g4, g5⟩ := h4 r hr
    have e1 : ixD (hs.map .int) r.1 = _ := ixD_ints g1 (by omega)
    have e2 : ixD (hs.map .int) r.2.1 = _ := ixD_ints g3 (by omega)
    simp only [wss_nil, wss_cons, w_ifs, w_ret, w_retN, w_pass, w_drop, w_sSet, w_sPop, we_var, we_none, we_tru, we_fls, we_int, we_str, we_op, we_neg, we_cmp, we_chain, we_isN, we_notN, we_isT, we_notT, we_not, we_and, we_or, we_ite, we_tup, we_lst, we_ix, we_sl, we_rev, we_bi, we_isi, we_call, we_lc, we_sInt, we_sCnt, wc_no, wc_so, wo_no, wo_so, ws_nil, ws_cons, ws_star, wi_val, wi_rg1, wi_rg2, wi_enum, wi_zip, wi_zips, we_idx, we_rl1, we_rl2, putX_nil, putX_no, wt_turn, O1_some, O2_some, O3_some, O1_ite, asB_b, asI_i, frC_int, frN_int, vals_nil, vals_cons, getV_zero, getV_succ, asgT_n, asgT_t, asgTs_n, asgTs_c, putT_n, putT_t, putTs_n, putTs_c, putAll_n, putAll_c, wipe_n, wipe_c, List.map_cons, List.map_nil, List.set_cons_succ, List.set_cons_zero, Option.bind_some, Option.map_some, Option.map_none, op2_add, op2_addT, op2_addL, op2_sub, op2_mul, op2_fdiv, op2_mod, cm2_lt, cm2_le, cm2_gt, cm2_ge, bi_lenL, bi_lenT, bi_tupL, bi_tupT, bi_lstL, bi_lstT, bi_int, bi_bool, bi_abs, bi_max, bi_min, bi_sum, bi_all, seqOf_l, seqOf_t, bi_sorted, bi_repr, iop_a, iop_s, iop_m, itemsL, itemsT, ty1, ty2, ty3, ty4, ty5, ty6, ty7, ty8, ty9, ty10, isN0, isN1, isN2, isN3, isN4, isN5, decide_eq_true_eq, if_true, Bool.true_or, Bool.or_true, Bool.true_and, Bool.and_true, Bool.false_eq_true, if_false, noL_int, noL_bool, noL_tup, noLs_nil, noLs_cons, pints_map, pbools_map, Option.map_some, Bool.or_self, Bool.and_self, Bool.or_false, Bool.false_or, noLs_ints, ix0, ix1, ix2, frC_bool, frC_tup, frC_lst, biFr_tup, biFr_lst, biFr_int, frN_lst, frN_tup, frN_bool, cut2, slD_t, slD_l, true_and, and_true, eR, rd, e1, e2, mulOk_l (show r.2.2.natAbs < 2 ^ 64 by omega), true_and, and_self]
  · have e : (rs.map fun r => (.int (rd hs r) : D)) = (rs.map (rd hs)).map .int := by rw [List.map_map]; rfl
    rw [e]
    exact q
end
/-! ### marks -/
def sg (x : Int) : Prop := x = 1 ∨ x = -1
def ends (rs : List Rd) (ms : List Int) : List (Int × Int) := (rs.zip ms).map fun p => (p.2, -p.1.2.2 * p.2)
def ePair (p : Int × Int) : D := .tuple [.int p.1, .int p.2]
theorem noL_pair {p : Int × Int} : noL (ePair p) = true := by simp [ePair, noL, noLs]
section
variable {k : Nat} {s : Src} {Q : D → Src → Prop} {n : Int} {rs : List Rd} {hs ms : List Int}
theorem arrowEnds (h : okF 5 8 n rs) (hl : ms.length = rs.length) (hm : ∀ x ∈ ms, sg x) (q : Q (.tuple ((ends rs ms).map ePair)) s) : O2 (callK T W (k + 1) 2 [eF n rs, eRow ms] s) Q := by
  refine call_ok (d := f2) rfl rfl ?_
  show WSs _ _ f2.body ⟨[some (eF n rs, noL (eF n rs)), some (eRow ms, noL (eRow ms)), none, none], s⟩ _
  obtain ⟨h1, h2, h3, h4⟩ := h
  unfold f2
  simp only [eF, eRow, wss_nil, wss_cons, w_ifs, w_ret, w_retN, w_pass, w_drop, w_sSet, w_sPop, we_var, we_none, we_tru, we_fls, we_int, we_str, we_op, we_neg, we_cmp, we_chain, we_isN, we_notN, we_isT, we_notT, we_not, we_and, we_or, we_ite, we_tup, we_lst, we_ix, we_sl, we_rev, we_bi, we_isi, we_call, we_lc, we_sInt, we_sCnt, wc_no, wc_so, wo_no, wo_so, ws_nil, ws_cons, ws_star, wi_val, wi_rg1, wi_rg2, wi_enum, wi_zip, wi_zips, we_idx, we_rl1, we_rl2, putX_nil, putX_no, wt_turn, O1_some, O2_some, O3_some, O1_ite, asB_b, asI_i, frC_int, frN_int, vals_nil, vals_cons, getV_zero, getV_succ, asgT_n, asgT_t, asgTs_n, asgTs_c, putT_n, putT_t, putTs_n, putTs_c, putAll_n, putAll_c, wipe_n, wipe_c, List.map_cons, List.map_nil, List.set_cons_succ, List.set_cons_zero, Option.bind_some, Option.map_some, Option.map_none, op2_add, op2_addT, op2_addL, op2_sub, op2_mul, op2_fdiv, op2_mod, cm2_lt, cm2_le, cm2_gt, cm2_ge, bi_lenL, bi_lenT, bi_tupL, bi_tupT, bi_lstL, bi_lstT, bi_int, bi_bool, bi_abs, bi_max, bi_min, bi_sum, bi_all, seqOf_l, seqOf_t, bi_sorted, bi_repr, iop_a, iop_s, iop_m, itemsL, itemsT, ty1, ty2, ty3, ty4, ty5, ty6, ty7, ty8, ty9, ty10, isN0, isN1, isN2, isN3, isN4, isN5, decide_eq_true_eq, if_true, Bool.true_or, Bool.or_true, Bool.true_and, Bool.and_true, Bool.false_eq_true, if_false, noL_int, noL_bool, noL_tup, noLs_nil, noLs_cons, pints_map, pbools_map, Option.map_some, Bool.or_self, Bool.and_self, Bool.or_false, Bool.false_or, noLs_ints, ix0, ix1, ix2, frC_bool, frC_tup, frC_lst, biFr_tup, biFr_lst, biFr_int, frN_lst, frN_tup, frN_bool, cut2, slD_t, slD_l, true_and, and_true, true_and, pairs_map]
  refine ⟨by simp [hl], fits_of (by simp; omega), ?_⟩
  refine o3_map (e := fun p : Rd × Int => .tuple [eR p.1, .int p.2]) (fun p => ePair (p.2, -p.1.2.2 * p.2)) (fun p hp => ?_) ?_
  · obtain ⟨r, m⟩ := p
    obtain ⟨g1, g2, g3, g4, g5⟩ := h4 r (List.of_mem_zip hp).1
    simp only [wss_nil, wss_cons, w_ifs, w_ret, w_retN, w_pass, w_drop, w_sSet, w_sPop, we_var, we_none, we_tru, we_fls, we_int, we_str, we_op, we_neg, we_cmp, we_chain, we_isN, we_notN, we_isT, we_notT, we_not, we_and, we_or, we_ite, we_tup, we_lst, we_ix, we_sl, we_rev, we_bi, we_isi, we_call, we_lc, we_sInt, we_sCnt, wc_no, wc_so, wo_no, wo_so, ws_nil, ws_cons, ws_star, wi_val, wi_rg1, wi_rg2, wi_enum, wi_zip, wi_zips, we_idx, we_rl1, we_rl2, putX_nil, putX_no, wt_turn, O1_some, O2_some, O3_some, O1_ite, asB_b, asI_i, frC_int, frN_int, vals_nil, vals_cons, getV_zero, getV_succ, asgT_n, asgT_t, asgTs_n, asgTs_c, putT_n, putT_t, putTs_n, putTs_c, putAll_n, putAll_c, wipe_n, wipe_c, List.map_cons, List.map_nil, List.set_cons_succ, List.set_cons_zero, Option.bind_some, Option.map_some, Option.map_none, op2_add, op2_addT, op2_addL, op2_sub, op2_mul, op2_fdiv, op2_mod, cm2_lt, cm2_le, cm2_gt, cm2_ge, bi_lenL, bi_lenT, bi_tupL, bi_tupT, bi_lstL, bi_lstT, bi_int, bi_bool, bi_abs, bi_max, bi_min, bi_sum, bi_all, seqOf_l, seqOf_t, bi_sorted, bi_repr, iop_a, iop_s, iop_m, itemsL, itemsT, ty1, ty2, ty3, ty4, ty5, ty6, ty7, ty8, ty9, ty10, isN0, isN1, isN2, isN3, isN4, isN5, decide_eq_true_eq, if_true, Bool.true_or, Bool.or_true, Bool.true_and, Bool.and_true, Bool.false_eq_true, if_false, noL_int, noL_bool, noL_tup, noLs_nil, noLs_cons, pints_map, pbools_map, Option.map_some, Bool.or_self, Bool.and_self, Bool.or_false, Bool.false_or, noLs_ints, ix0, ix1, ix2, frC_bool, frC_tup, frC_lst, biFr_tup, biFr_lst, biFr_int, frN_lst, frN_tup, frN_bool, cut2, slD_t, slD_l, true_and, and_true, eR, ePair, mulOk_l (show (-r.2.2).natAbs < 2 ^ 64 by omega), true_and, and_self]
    exact fits_of (by simp)
  · have e : ((rs.zip ms).map fun p : Rd × Int => ePair (p.2, -p.1.2.2 * p.2)) = (ends rs ms).map ePair := by simp [ends]
    rw [e]
    exact q
def along (ms row : List Int) : Bool := ((ms.zip row).filter fun p => decide (p.1 * p.2 < 0)).isEmpty
theorem ones {α : Type} {l : List α} (hl : l.length ≤ 100) : cm2 .eq (.list (l.map fun _ => (.int 1 : D))) (.list []) = some l.isEmpty := by
  have h1 : SeqAt.shaped (.list (l.map fun _ => (.int 1 : D))) = true := (nice_lst (dp := 0) (b := 21) fun x hx => by
    obtain ⟨a, _, rfl⟩ := List.mem_map.mp hx
    exact nice_int (by decide)).shaped (by omega)
  have h2 : SeqAt.shaped (.list []) = true := by decide
  rw [cm2_eq, h1, h2]
  cases l <;> simp [PyData.eqv, PyData.eqvAll]
theorem along5 {row : List Int} (hl : ms.length = row.length) (h8 : ms.length ≤ 8) (hm : ∀ x ∈ ms, x.natAbs < 100) (q : Q (.bool (along ms row)) s) : O2 (callK T W (k + 1) 5 [eRow ms, eRow row] s) Q := by
  refine call_ok (d := f5) rfl rfl ?_
  show WSs _ _ f5.body ⟨[some (eRow ms, noL (eRow ms)), some (eRow row, noL (eRow row)), none, none], s⟩ _
  unfold f5
  simp only [eRow, wss_nil, wss_cons, w_ifs, w_ret, w_retN, w_pass, w_drop, w_sSet, w_sPop, we_var, we_none, we_tru, we_fls, we_int, we_str, we_op, we_neg, we_cmp, we_chain, we_isN, we_notN, we_isT, we_notT, we_not, we_and, we_or, we_ite, we_tup, we_lst, we_ix, we_sl, we_rev, we_bi, we_isi, we_call, we_lc, we_sInt, we_sCnt, wc_no, wc_so, wo_no, wo_so, ws_nil, ws_cons, ws_star, wi_val, wi_rg1, wi_rg2, wi_enum, wi_zip, wi_zips, we_idx, we_rl1, we_rl2, putX_nil, putX_no, wt_turn, O1_some, O2_some, O3_some, O1_ite, asB_b, asI_i, frC_int, frN_int, vals_nil, vals_cons, getV_zero, getV_succ, asgT_n, asgT_t, asgTs_n, asgTs_c, putT_n, putT_t, putTs_n, putTs_c, putAll_n, putAll_c, wipe_n, wipe_c, List.map_cons, List.map_nil, List.set_cons_succ, List.set_cons_zero, Option.bind_some, Option.map_some, Option.map_none, op2_add, op2_addT, op2_addL, op2_sub, op2_mul, op2_fdiv, op2_mod, cm2_lt, cm2_le, cm2_gt, cm2_ge, bi_lenL, bi_lenT, bi_tupL, bi_tupT, bi_lstL, bi_lstT, bi_int, bi_bool, bi_abs, bi_max, bi_min, bi_sum, bi_all, seqOf_l, seqOf_t, bi_sorted, bi_repr, iop_a, iop_s, iop_m, itemsL, itemsT, ty1, ty2, ty3, ty4, ty5, ty6, ty7, ty8, ty9, ty10, isN0, isN1, isN2, isN3, isN4, isN5, decide_eq_true_eq, if_true, Bool.true_or, Bool.or_true, Bool.true_and, Bool.and_true, Bool.false_eq_true, if_false, noL_int, noL_bool, noL_tup, noLs_nil, noLs_cons, pints_map, pbools_map, Option.map_some, Bool.or_self, Bool.and_self, Bool.or_false, Bool.false_or, noLs_ints, ix0, ix1, ix2, frC_bool, frC_tup, frC_lst, biFr_tup, biFr_lst, biFr_int, frN_lst, frN_tup, frN_bool, cut2, slD_t, slD_l, true_and, and_true, true_and, pairs_map]
  refine ⟨by simp [hl], fits_of (by simp; omega), ?_⟩
  refine o3_filter (e := fun p : Int × Int => .tuple [.int p.1, .int p.2]) (fun p => decide (p.1 * p.2 < 0)) (fun _ => .int 1) (fun p hp => ?_) ?_
  · have := hm p.1 (List.of_mem_zip hp).1
    simp only [wss_nil, wss_cons, w_ifs, w_ret, w_retN, w_pass, w_drop, w_sSet, w_sPop, we_var, we_none, we_tru, we_fls, we_int, we_str, we_op, we_neg, we_cmp, we_chain, we_isN, we_notN, we_isT, we_notT, we_not, we_and, we_or, we_ite, we_tup, we_lst, we_ix, we_sl, we_rev, we_bi, we_isi, we_call, we_lc, we_sInt, we_sCnt, wc_no, wc_so, wo_no, wo_so, ws_nil, ws_cons, ws_star, wi_val, wi_rg1, wi_rg2, wi_enum, wi_zip, wi_zips, we_idx, we_rl1, we_rl2, putX_nil, putX_no, wt_turn, O1_some, O2_some, O3_some, O1_ite, asB_b, asI_i, frC_int, frN_int, vals_nil, vals_cons, getV_zero, getV_succ, asgT_n, asgT_t, asgTs_n, asgTs_c, putT_n, putT_t, putTs_n, putTs_c, putAll_n, putAll_c, wipe_n, wipe_c, List.map_cons, List.map_nil, List.set_cons_succ, List.set_cons_zero, Option.bind_some, Option.map_some, Option.map_none, op2_add, op2_addT, op2_addL, op2_sub, op2_mul, op2_fdiv, op2_mod, cm2_lt, cm2_le, cm2_gt, cm2_ge, bi_lenL, bi_lenT, bi_tupL, bi_tupT, bi_lstL, bi_lstT, bi_int, bi_bool, bi_abs, bi_max, bi_min, bi_sum, bi_all, seqOf_l, seqOf_t, bi_sorted, bi_repr, iop_a, iop_s, iop_m, itemsL, itemsT, ty1, ty2, ty3, ty4, ty5, ty6, ty7, ty8, ty9, ty10, isN0, isN1, isN2, isN3, isN4, isN5, decide_eq_true_eq, if_true, Bool.true_or, Bool.or_true, Bool.true_and, Bool.and_true, Bool.false_eq_true, if_false, noL_int, noL_bool, noL_tup, noLs_nil, noLs_cons, pints_map, pbools_map, Option.map_some, Bool.or_self, Bool.and_self, Bool.or_false, Bool.false_or, noLs_ints, ix0, ix1, ix2, frC_bool, frC_tup, frC_lst, biFr_tup, biFr_lst, biFr_int, frN_lst, frN_tup, frN_bool, cut2, slD_t, slD_l, true_and, and_true, mulOk_l (show p.1.natAbs < 2 ^ 64 by omega)]
    split <;> simp_all
  · refine ⟨fits_of (by simp), ?_⟩
    rw [ones (Nat.le_trans (List.length_filter_le _ _) (by simp; omega))]
    exact q
theorem along12 {row : List Int} (hl : ms.length = row.length) (h8 : ms.length ≤ 8) (hm : ∀ x ∈ ms, x.natAbs < 100) (q : Q (.bool (along ms row)) s) : O2 (callK T W (k + 1) 12 [eRow ms, eRow row] s) Q := by
  refine call_ok (d := f12) rfl rfl ?_
  show WSs _ _ f12.body ⟨[some (eRow ms, noL (eRow ms)), some (eRow row, noL (eRow row)), none, none], s⟩ _
  unfold f12
  simp only [eRow, wss_nil, wss_cons, w_ifs, w_ret, w_retN, w_pass, w_drop, w_sSet, w_sPop, we_var, we_none, we_tru, we_fls, we_int, we_str, we_op, we_neg, we_cmp, we_chain, we_isN, we_notN, we_isT, we_notT, we_not, we_and, we_or, we_ite, we_tup, we_lst, we_ix, we_sl, we_rev, we_bi, we_isi, we_call, we_lc, we_sInt, we_sCnt, wc_no, wc_so, wo_no, wo_so, ws_nil, ws_cons, ws_star, wi_val, wi_rg1, wi_rg2, wi_enum, wi_zip, wi_zips, we_idx, we_rl1, we_rl2, putX_nil, putX_no, wt_turn, O1_some, O2_some, O3_some, O1_ite, asB_b, asI_i, frC_int, frN_int, vals_nil, vals_cons, getV_zero, getV_succ, asgT_n, asgT_t, asgTs_n, asgTs_c, putT_n, putT_t, putTs_n, putTs_c, putAll_n, putAll_c, wipe_n, wipe_c, List.map_cons, List.map_nil, List.set_cons_succ, List.set_cons_zero, Option.bind_some, Option.map_some, Option.map_none, op2_add, op2_addT, op2_addL, op2_sub, op2_mul, op2_fdiv, op2_mod, cm2_lt, cm2_le, cm2_gt, cm2_ge, bi_lenL, bi_lenT, bi_tupL, bi_tupT, bi_lstL, bi_lstT, bi_int, bi_bool, bi_abs, bi_max, bi_min, bi_sum, bi_all, seqOf_l, seqOf_t, bi_sorted, bi_repr, iop_a, iop_s, iop_m, itemsL, itemsT, ty1, ty2, ty3, ty4, ty5, ty6, ty7, ty8, ty9, ty10, isN0, isN1, isN2, isN3, isN4, isN5, decide_eq_true_eq, if_true, Bool.true_or, Bool.or_true, Bool.true_and, Bool.and_true, Bool.false_eq_true, if_false, noL_int, noL_bool, noL_tup, noLs_nil, noLs_cons, pints_map, pbools_map, Option.map_some, Bool.or_self, Bool.and_self, Bool.or_false, Bool.false_or, noLs_ints, ix0, ix1, ix2, frC_bool, frC_tup, frC_lst, biFr_tup, biFr_lst, biFr_int, frN_lst, frN_tup, frN_bool, cut2, slD_t, slD_l, true_and, and_true, true_and, pairs_map]
  refine ⟨fits_of (by simp; omega), ?_⟩
  refine o3_filter (e := fun p : Int × Int => .tuple [.int p.1, .int p.2]) (fun p => decide (p.1 * p.2 < 0)) (fun _ => .int 1) (fun p hp => ?_) ?_
  · have := hm p.1 (List.of_mem_zip hp).1
    simp only [wss_nil, wss_cons, w_ifs, w_ret, w_retN, w_pass, w_drop, w_sSet, w_sPop, we_var, we_none, we_tru, we_fls, we_int, we_str, we_op, we_neg, we_cmp, we_chain, we_isN, we_notN, we_isT, we_notT, we_not, we_and, we_or, we_ite, we_tup, we_lst, we_ix, we_sl, we_rev, we_bi, we_isi, we_call, we_lc, we_sInt, we_sCnt, wc_no, wc_so, wo_no, wo_so, ws_nil, ws_cons, ws_star, wi_val, wi_rg1, wi_rg2, wi_enum, wi_zip, wi_zips, we_idx, we_rl1, we_rl2, putX_nil, putX_no, wt_turn, O1_some, O2_some, O3_some, O1_ite, asB_b, asI_i, frC_int, frN_int, vals_nil, vals_cons, getV_zero, getV_succ, asgT_n, asgT_t, asgTs_n, asgTs_c, putT_n, putT_t, putTs_n, putTs_c, putAll_n, putAll_c, wipe_n, wipe_c, List.map_cons, List.map_nil, List.set_cons_succ, List.set_cons_zero, Option.bind_some, Option.map_some, Option.map_none, op2_add, op2_addT, op2_addL, op2_sub, op2_mul, op2_fdiv, op2_mod, cm2_lt, cm2_le, cm2_gt, cm2_ge, bi_lenL, bi_lenT, bi_tupL, bi_tupT, bi_lstL, bi_lstT, bi_int, bi_bool, bi_abs, bi_max, bi_min, bi_sum, bi_all, seqOf_l, seqOf_t, bi_sorted, bi_repr, iop_a, iop_s, iop_m, itemsL, itemsT, ty1, ty2, ty3, ty4, ty5, ty6, ty7, ty8, ty9, ty10, isN0, isN1, isN2, isN3, isN4, isN5, decide_eq_true_eq, if_true, Bool.true_or, Bool.or_true, Bool.true_and, Bool.and_true, Bool.false_eq_true, if_false, noL_int, noL_bool, noL_tup, noLs_nil, noLs_cons, pints_map, pbools_map, Option.map_some, Bool.or_self, Bool.and_self, Bool.or_false, Bool.false_or, noLs_ints, ix0, ix1, ix2, frC_bool, frC_tup, frC_lst, biFr_tup, biFr_lst, biFr_int, frN_lst, frN_tup, frN_bool, cut2, slD_t, slD_l, true_and, and_true, mulOk_l (show p.1.natAbs < 2 ^ 64 by omega)]
    split <;> simp_all
  · refine ⟨fits_of (by simp), ?_⟩
    rw [ones (Nat.le_trans (List.length_filter_le _ _) (by simp; omega))]
    exact q
end
/-! ### arrows of heights -/
def sgn (x : Int) : Int := if x > 0 then 1 else -1
def arr (l : List Int) : D := if (l.any fun z => z == 0) = true then .none else eRow (l.map sgn)
theorem nice_r {l : List Int} (h : ∀ x ∈ l, x.natAbs < 10000) (hl : l.length ≤ 100) : Nice 1 3000 (eRow l) := (nice_ints fun x hx => by have := h x hx; omega).mono (by omega) (by omega)
theorem any0 {l : List Int} : ((l.map PyData.int).any fun z => PyData.eqv z (.int 0)) = l.any fun z => z == 0 := by
  rw [List.any_map]
  congr 1
theorem nin0 {l : List Int} (h : ∀ x ∈ l, x.natAbs < 10000) (hl : l.length ≤ 100) : cm2 .nin (.int 0) (.tuple (l.map .int)) = some (!l.any fun z => z == 0) := by
  have s1 : SeqAt.shaped (.tuple (l.map PyData.int)) = true := (nice_r h hl).shaped (by omega)
  have s0 : SeqAt.shaped (.int 0) = true := by decide
  show (if (SeqAt.shaped (.int 0) && SeqAt.shaped (.tuple (l.map PyData.int))) = true then some (!(l.map PyData.int).any fun z => PyData.eqv z (.int 0)) else none) = _
  rw [s1, s0, any0]; rfl
theorem inn0 {l : List Int} (h : ∀ x ∈ l, x.natAbs < 10000) (hl : l.length ≤ 100) : cm2 .inn (.int 0) (.tuple (l.map .int)) = some (l.any fun z => z == 0) := by
  have s1 : SeqAt.shaped (.tuple (l.map PyData.int)) = true := (nice_r h hl).shaped (by omega)
  have s0 : SeqAt.shaped (.int 0) = true := by decide
  show (if (SeqAt.shaped (.int 0) && SeqAt.shaped (.tuple (l.map PyData.int))) = true then some ((l.map PyData.int).any fun z => PyData.eqv z (.int 0)) else none) = _
  rw [s1, s0, any0]; rfl
theorem rd_small {n : Int} {rs : List Rd} {hs : List Int} (h : ∀ r ∈ rs, okR n r) (hl : hs.length = n.toNat) (hh : ∀ x ∈ hs, x.natAbs < 100) : ∀ x ∈ rs.map (rd hs), x.natAbs < 10000 := fun x hx => by
  obtain ⟨r, hr, rfl⟩ := List.mem_map.mp hx
  obtain ⟨g1, g2, g3, g4, g5⟩ := h r hr
  have p1 := getD_all hh (i := r.1.toNat) (by omega)
  have p2 := getD_all hh (i := r.2.1.toNat) (by omega)
  unfold rd
  rcases g5 with e | e <;> rw [e] <;> omega
section
variable {k : Nat} {s : Src} {Q : D → Src → Prop} {n : Int} {rs : List Rd} {hs ms : List Int}
theorem arrows4 (h : okF 5 8 n rs) (hl : hs.length = n.toNat) (hh : ∀ x ∈ hs, x.natAbs < 100) (q : Q (arr (rs.map (rd hs))) s) : O2 (callK T W (k + 2) 4 [eF n rs, eRow hs] s) Q := by
  refine call_ok (d := f4) rfl rfl ?_
  show WSs _ _ f4.body ⟨[some (eF n rs, noL (eF n rs)), some (eRow hs, noL (eRow hs)), none, none], s⟩ _
  have hsm := rd_small h.2.2.2 hl hh
  have hle : (rs.map (rd hs)).length ≤ 100 := by have := h.2.2.1; simp; omega
  unfold f4
  refine wss_seq (fun st => st.src = s ∧ st.env = [some (eF n rs, noL (eF n rs)), some (eRow hs, noL (eRow hs)), some (eRow (rs.map (rd hs)), true), none]) (w_asg ?_) ?_
  · simp only [wss_nil, wss_one, w_ifs, w_ret, w_retN, w_pass, w_drop, w_sSet, w_sPop, we_var, we_none, we_tru, we_fls, we_int, we_str, we_op, we_neg, we_cmp, we_chain, we_isN, we_notN, we_isT, we_notT, we_not, we_and, we_or, we_ite, we_tup, we_lst, we_ix, we_sl, we_rev, we_bi, we_isi, we_call, we_lc, we_sInt, we_sCnt, wc_no, wc_so, wo_no, wo_so, ws_nil, ws_cons, ws_star, wi_val, wi_rg1, wi_rg2, wi_enum, wi_zip, wi_zips, we_idx, we_rl1, we_rl2, putX_nil, putX_no, wt_turn, O1_some, O2_some, O3_some, O1_ite, asB_b, asI_i, frC_int, frN_int, vals_nil, vals_cons, getV_zero, getV_succ, asgT_n, asgT_t, asgTs_n, asgTs_c, putT_n, putT_t, putTs_n, putTs_c, putAll_n, putAll_c, wipe_n, wipe_c, List.map_cons, List.map_nil, List.set_cons_succ, List.set_cons_zero, Option.bind_some, Option.map_some, Option.map_none, op2_add, op2_addT, op2_addL, op2_sub, op2_mul, op2_fdiv, op2_mod, cm2_lt, cm2_le, cm2_gt, cm2_ge, bi_lenL, bi_lenT, bi_tupL, bi_tupT, bi_lstL, bi_lstT, bi_int, bi_bool, bi_abs, bi_max, bi_min, bi_sum, bi_all, seqOf_l, seqOf_t, bi_sorted, bi_repr, iop_a, iop_s, iop_m, itemsL, itemsT, ty1, ty2, ty3, ty4, ty5, ty6, ty7, ty8, ty9, ty10, isN0, isN1, isN2, isN3, isN4, isN5, decide_eq_true_eq, if_true, Bool.true_or, Bool.or_true, Bool.true_and, Bool.and_true, Bool.false_eq_true, if_false, noL_int, noL_bool, noL_tup, noLs_nil, noLs_cons, pints_map, pbools_map, Option.map_some, Bool.or_self, Bool.and_self, Bool.or_false, Bool.false_or, noLs_ints, ix0, ix1, ix2, frC_bool, frC_tup, frC_lst, biFr_tup, biFr_lst, biFr_int, frN_lst, frN_tup, frN_bool, cut2, slD_t, slD_l, true_and, and_true]
    refine readings3 h hl ?_
    exact ⟨by simp only [noL_row, Bool.or_true], rfl, rfl⟩
  rintro ⟨env, s1⟩ ⟨e1, he⟩
  simp only at e1 he
  subst e1 he
  simp only [eRow, wss_nil, wss_one, w_ifs, w_ret, w_retN, w_pass, w_drop, w_sSet, w_sPop, we_var, we_none, we_tru, we_fls, we_int, we_str, we_op, we_neg, we_cmp, we_chain, we_isN, we_notN, we_isT, we_notT, we_not, we_and, we_or, we_ite, we_tup, we_lst, we_ix, we_sl, we_rev, we_bi, we_isi, we_call, we_lc, we_sInt, we_sCnt, wc_no, wc_so, wo_no, wo_so, ws_nil, ws_cons, ws_star, wi_val, wi_rg1, wi_rg2, wi_enum, wi_zip, wi_zips, we_idx, we_rl1, we_rl2, putX_nil, putX_no, wt_turn, O1_some, O2_some, O3_some, O1_ite, asB_b, asI_i, frC_int, frN_int, vals_nil, vals_cons, getV_zero, getV_succ, asgT_n, asgT_t, asgTs_n, asgTs_c, putT_n, putT_t, putTs_n, putTs_c, putAll_n, putAll_c, wipe_n, wipe_c, List.map_cons, List.map_nil, List.set_cons_succ, List.set_cons_zero, Option.bind_some, Option.map_some, Option.map_none, op2_add, op2_addT, op2_addL, op2_sub, op2_mul, op2_fdiv, op2_mod, cm2_lt, cm2_le, cm2_gt, cm2_ge, bi_lenL, bi_lenT, bi_tupL, bi_tupT, bi_lstL, bi_lstT, bi_int, bi_bool, bi_abs, bi_max, bi_min, bi_sum, bi_all, seqOf_l, seqOf_t, bi_sorted, bi_repr, iop_a, iop_s, iop_m, itemsL, itemsT, ty1, ty2, ty3, ty4, ty5, ty6, ty7, ty8, ty9, ty10, isN0, isN1, isN2, isN3, isN4, isN5, decide_eq_true_eq, if_true, Bool.true_or, Bool.or_true, Bool.true_and, Bool.and_true, Bool.false_eq_true, if_false, noL_int, noL_bool, noL_tup, noLs_nil, noLs_cons, pints_map, pbools_map, Option.map_some, Bool.or_self, Bool.and_self, Bool.or_false, Bool.false_or, noLs_ints, ix0, ix1, ix2, frC_bool, frC_tup, frC_lst, biFr_tup, biFr_lst, biFr_int, frN_lst, frN_tup, frN_bool, cut2, slD_t, slD_l, true_and, and_true, nin0 hsm hle]
  unfold arr at q
  cases hb : (rs.map (rd hs)).any fun z => z == 0 with
  | true =>
    rw [hb, if_pos rfl] at q
    simpa using q
  | false =>
    rw [hb, if_neg (by decide)] at q
    simp only [Bool.not_false, if_true]
    refine ⟨fits_of (by rw [List.length_map]; omega), ?_⟩
    refine o3_map (e := PyData.int) (fun x => .int (sgn x)) (fun x hx => ?_) ?_
    · simp only [wss_nil, wss_one, w_ifs, w_ret, w_retN, w_pass, w_drop, w_sSet, w_sPop, we_var, we_none, we_tru, we_fls, we_int, we_str, we_op, we_neg, we_cmp, we_chain, we_isN, we_notN, we_isT, we_notT, we_not, we_and, we_or, we_ite, we_tup, we_lst, we_ix, we_sl, we_rev, we_bi, we_isi, we_call, we_lc, we_sInt, we_sCnt, wc_no, wc_so, wo_no, wo_so, ws_nil, ws_cons, ws_star, wi_val, wi_rg1, wi_rg2, wi_enum, wi_zip, wi_zips, we_idx, we_rl1, we_rl2, putX_nil, putX_no, wt_turn, O1_some, O2_some, O3_some, O1_ite, asB_b, asI_i, frC_int, frN_int, vals_nil, vals_cons, getV_zero, getV_succ, asgT_n, asgT_t, asgTs_n, asgTs_c, putT_n, putT_t, putTs_n, putTs_c, putAll_n, putAll_c, wipe_n, wipe_c, List.map_cons, List.map_nil, List.set_cons_succ, List.set_cons_zero, Option.bind_some, Option.map_some, Option.map_none, op2_add, op2_addT, op2_addL, op2_sub, op2_mul, op2_fdiv, op2_mod, cm2_lt, cm2_le, cm2_gt, cm2_ge, bi_lenL, bi_lenT, bi_tupL, bi_tupT, bi_lstL, bi_lstT, bi_int, bi_bool, bi_abs, bi_max, bi_min, bi_sum, bi_all, seqOf_l, seqOf_t, bi_sorted, bi_repr, iop_a, iop_s, iop_m, itemsL, itemsT, ty1, ty2, ty3, ty4, ty5, ty6, ty7, ty8, ty9, ty10, isN0, isN1, isN2, isN3, isN4, isN5, decide_eq_true_eq, if_true, Bool.true_or, Bool.or_true, Bool.true_and, Bool.and_true, Bool.false_eq_true, if_false, noL_int, noL_bool, noL_tup, noLs_nil, noLs_cons, pints_map, pbools_map, Option.map_some, Bool.or_self, Bool.and_self, Bool.or_false, Bool.false_or, noLs_ints, ix0, ix1, ix2, frC_bool, frC_tup, frC_lst, biFr_tup, biFr_lst, biFr_int, frN_lst, frN_tup, frN_bool, cut2, slD_t, slD_l, true_and, and_true, sgn]
      split <;> rfl
    · have e : (rs.map (rd hs)).map (fun x => (.int (sgn x) : D)) = ((rs.map (rd hs)).map sgn).map .int := by simp
      rw [e]
      exact q
theorem arrows11 (h : okF 5 8 n rs) (hl : hs.length = n.toNat) (hh : ∀ x ∈ hs, x.natAbs < 100) (q : Q (arr (rs.map (rd hs))) s) : O2 (callK T W (k + 2) 11 [eF n rs, eRow hs] s) Q := by
  refine call_ok (d := f11) rfl rfl ?_
  show WSs _ _ f11.body ⟨[some (eF n rs, noL (eF n rs)), some (eRow hs, noL (eRow hs)), none, none], s⟩ _
  have hsm := rd_small h.2.2.2 hl hh
  have hle : (rs.map (rd hs)).length ≤ 100 := by have := h.2.2.1; simp; omega
  unfold f11
  refine wss_seq (fun st => st.src = s ∧ st.env = [some (eF n rs, noL (eF n rs)), some (eRow hs, noL (eRow hs)), some (eRow (rs.map (rd hs)), true), none]) (w_asg ?_) ?_
  · simp only [wss_nil, wss_one, w_ifs, w_ret, w_retN, w_pass, w_drop, w_sSet, w_sPop, we_var, we_none, we_tru, we_fls, we_int, we_str, we_op, we_neg, we_cmp, we_chain, we_isN, we_notN, we_isT, we_notT, we_not, we_and, we_or, we_ite, we_tup, we_lst, we_ix, we_sl, we_rev, we_bi, we_isi, we_call, we_lc, we_sInt, we_sCnt, wc_no, wc_so, wo_no, wo_so, ws_nil, ws_cons, ws_star, wi_val, wi_rg1, wi_rg2, wi_enum, wi_zip, wi_zips, we_idx, we_rl1, we_rl2, putX_nil, putX_no, wt_turn, O1_some, O2_some, O3_some, O1_ite, asB_b, asI_i, frC_int, frN_int, vals_nil, vals_cons, getV_zero, getV_succ, asgT_n, asgT_t, asgTs_n, asgTs_c, putT_n, putT_t, putTs_n, putTs_c, putAll_n, putAll_c, wipe_n, wipe_c, List.map_cons, List.map_nil, List.set_cons_succ, List.set_cons_zero, Option.bind_some, Option.map_some, Option.map_none, op2_add, op2_addT, op2_addL, op2_sub, op2_mul, op2_fdiv, op2_mod, cm2_lt, cm2_le, cm2_gt, cm2_ge, bi_lenL, bi_lenT, bi_tupL, bi_tupT, bi_lstL, bi_lstT, bi_int, bi_bool, bi_abs, bi_max, bi_min, bi_sum, bi_all, seqOf_l, seqOf_t, bi_sorted, bi_repr, iop_a, iop_s, iop_m, itemsL, itemsT, ty1, ty2, ty3, ty4, ty5, ty6, ty7, ty8, ty9, ty10, isN0, isN1, isN2, isN3, isN4, isN5, decide_eq_true_eq, if_true, Bool.true_or, Bool.or_true, Bool.true_and, Bool.and_true, Bool.false_eq_true, if_false, noL_int, noL_bool, noL_tup, noLs_nil, noLs_cons, pints_map, pbools_map, Option.map_some, Bool.or_self, Bool.and_self, Bool.or_false, Bool.false_or, noLs_ints, ix0, ix1, ix2, frC_bool, frC_tup, frC_lst, biFr_tup, biFr_lst, biFr_int, frN_lst, frN_tup, frN_bool, cut2, slD_t, slD_l, true_and, and_true]
    refine readings10 h hl ?_
    exact ⟨by simp only [noL_row, Bool.or_true], rfl, rfl⟩
  rintro ⟨env, s1⟩ ⟨e1, he⟩
  simp only at e1 he
  subst e1 he
  simp only [eRow, wss_nil, wss_one, w_ifs, w_ret, w_retN, w_pass, w_drop, w_sSet, w_sPop, we_var, we_none, we_tru, we_fls, we_int, we_str, we_op, we_neg, we_cmp, we_chain, we_isN, we_notN, we_isT, we_notT, we_not, we_and, we_or, we_ite, we_tup, we_lst, we_ix, we_sl, we_rev, we_bi, we_isi, we_call, we_lc, we_sInt, we_sCnt, wc_no, wc_so, wo_no, wo_so, ws_nil, ws_cons, ws_star, wi_val, wi_rg1, wi_rg2, wi_enum, wi_zip, wi_zips, we_idx, we_rl1, we_rl2, putX_nil, putX_no, wt_turn, O1_some, O2_some, O3_some, O1_ite, asB_b, asI_i, frC_int, frN_int, vals_nil, vals_cons, getV_zero, getV_succ, asgT_n, asgT_t, asgTs_n, asgTs_c, putT_n, putT_t, putTs_n, putTs_c, putAll_n, putAll_c, wipe_n, wipe_c, List.map_cons, List.map_nil, List.set_cons_succ, List.set_cons_zero, Option.bind_some, Option.map_some, Option.map_none, op2_add, op2_addT, op2_addL, op2_sub, op2_mul, op2_fdiv, op2_mod, cm2_lt, cm2_le, cm2_gt, cm2_ge, bi_lenL, bi_lenT, bi_tupL, bi_tupT, bi_lstL, bi_lstT, bi_int, bi_bool, bi_abs, bi_max, bi_min, bi_sum, bi_all, seqOf_l, seqOf_t, bi_sorted, bi_repr, iop_a, iop_s, iop_m, itemsL, itemsT, ty1, ty2, ty3, ty4, ty5, ty6, ty7, ty8, ty9, ty10, isN0, isN1, isN2, isN3, isN4, isN5, decide_eq_true_eq, if_true, Bool.true_or, Bool.or_true, Bool.true_and, Bool.and_true, Bool.false_eq_true, if_false, noL_int, noL_bool, noL_tup, noLs_nil, noLs_cons, pints_map, pbools_map, Option.map_some, Bool.or_self, Bool.and_self, Bool.or_false, Bool.false_or, noLs_ints, ix0, ix1, ix2, frC_bool, frC_tup, frC_lst, biFr_tup, biFr_lst, biFr_int, frN_lst, frN_tup, frN_bool, cut2, slD_t, slD_l, true_and, and_true, inn0 hsm hle]
  unfold arr at q
  cases hb : (rs.map (rd hs)).any fun z => z == 0 with
  | true =>
    rw [hb, if_pos rfl] at q
    simpa using q
  | false =>
    rw [hb, if_neg (by decide)] at q
    simp only [Bool.false_eq_true, if_false]
    refine ⟨fits_of (by rw [List.length_map]; omega), ?_⟩
    refine o3_map (e := PyData.int) (fun x => .int (sgn x)) (fun x hx => ?_) ?_
    · simp only [wss_nil, wss_one, w_ifs, w_ret, w_retN, w_pass, w_drop, w_sSet, w_sPop, we_var, we_none, we_tru, we_fls, we_int, we_str, we_op, we_neg, we_cmp, we_chain, we_isN, we_notN, we_isT, we_notT, we_not, we_and, we_or, we_ite, we_tup, we_lst, we_ix, we_sl, we_rev, we_bi, we_isi, we_call, we_lc, we_sInt, we_sCnt, wc_no, wc_so, wo_no, wo_so, ws_nil, ws_cons, ws_star, wi_val, wi_rg1, wi_rg2, wi_enum, wi_zip, wi_zips, we_idx, we_rl1, we_rl2, putX_nil, putX_no, wt_turn, O1_some, O2_some, O3_some, O1_ite, asB_b, asI_i, frC_int, frN_int, vals_nil, vals_cons, getV_zero, getV_succ, asgT_n, asgT_t, asgTs_n, asgTs_c, putT_n, putT_t, putTs_n, putTs_c, putAll_n, putAll_c, wipe_n, wipe_c, List.map_cons, List.map_nil, List.set_cons_succ, List.set_cons_zero, Option.bind_some, Option.map_some, Option.map_none, op2_add, op2_addT, op2_addL, op2_sub, op2_mul, op2_fdiv, op2_mod, cm2_lt, cm2_le, cm2_gt, cm2_ge, bi_lenL, bi_lenT, bi_tupL, bi_tupT, bi_lstL, bi_lstT, bi_int, bi_bool, bi_abs, bi_max, bi_min, bi_sum, bi_all, seqOf_l, seqOf_t, bi_sorted, bi_repr, iop_a, iop_s, iop_m, itemsL, itemsT, ty1, ty2, ty3, ty4, ty5, ty6, ty7, ty8, ty9, ty10, isN0, isN1, isN2, isN3, isN4, isN5, decide_eq_true_eq, if_true, Bool.true_or, Bool.or_true, Bool.true_and, Bool.and_true, Bool.false_eq_true, if_false, noL_int, noL_bool, noL_tup, noLs_nil, noLs_cons, pints_map, pbools_map, Option.map_some, Bool.or_self, Bool.and_self, Bool.or_false, Bool.false_or, noLs_ints, ix0, ix1, ix2, frC_bool, frC_tup, frC_lst, biFr_tup, biFr_lst, biFr_int, frN_lst, frN_tup, frN_bool, cut2, slD_t, slD_l, true_and, and_true, sgn]
      split <;> rfl
    · have e : (rs.map (rd hs)).map (fun x => (.int (sgn x) : D)) = ((rs.map (rd hs)).map sgn).map .int := by simp
      rw [e]
      exact q
end
/-! ### which values are marks -/
def sgB : D → Bool
  | .int i => i == 1 || i == -1
  | _ => false
def marksB (m : Nat) : D → Bool
  | .tuple xs => decide (xs.length = m) && xs.all sgB
  | _ => false
theorem in_pm {i : Int} (h : SeqAt.shaped (.int i) = true) : cm2 .inn (.int i) (.tuple [.int 1, .int (-1)]) = some (i == 1 || i == -1) := by
  have s0 : SeqAt.shaped (.tuple [.int 1, .int (-1)]) = true := by decide
  show (if (SeqAt.shaped (.int i) && SeqAt.shaped (.tuple [.int 1, .int (-1)])) = true then some (([.int 1, .int (-1)] : List D).any fun z => PyData.eqv z (.int i)) else none) = _
  rw [h, s0]
  simp only [Bool.and_self, if_true, List.any_cons, List.any_nil, PyData.eqv, Bool.or_false]
  congr 1
  rw [Bool.eq_iff_iff]
  simp only [Bool.or_eq_true, beq_iff_eq]
  omega
theorem nin_pm {i : Int} (h : SeqAt.shaped (.int i) = true) : cm2 .nin (.int i) (.tuple [.int 1, .int (-1)]) = some (!(i == 1 || i == -1)) := by
  have s0 : SeqAt.shaped (.tuple [.int 1, .int (-1)]) = true := by decide
  show (if (SeqAt.shaped (.int i) && SeqAt.shaped (.tuple [.int 1, .int (-1)])) = true then some (!([.int 1, .int (-1)] : List D).any fun z => PyData.eqv z (.int i)) else none) = _
  rw [h, s0]
  simp only [Bool.and_self, if_true, List.any_cons, List.any_nil, PyData.eqv, Bool.or_false]
  congr 2
  rw [Bool.eq_iff_iff]
  simp only [Bool.or_eq_true, beq_iff_eq]
  omega
section
variable {k : Nat} {s : Src} {Q : D → Src → Prop} {n : Int} {rs : List Rd} {dp b : Nat}
theorem isSign (x : D) (hx : Nice dp b x) (hd : dp < 60) (q : Q (.bool (sgB x)) s) : O2 (callK T W (k + 1) 0 [x] s) Q := by
  refine call_ok (d := f0) rfl rfl ?_
  show WSs _ _ f0.body ⟨[some (x, noL x)], s⟩ _
  unfold f0
  cases x <;> simp only [wss_nil, wss_cons, w_ifs, w_ret, w_retN, w_pass, w_drop, w_sSet, w_sPop, we_var, we_none, we_tru, we_fls, we_int, we_str, we_op, we_neg, we_cmp, we_chain, we_isN, we_notN, we_isT, we_notT, we_not, we_and, we_or, we_ite, we_tup, we_lst, we_ix, we_sl, we_rev, we_bi, we_isi, we_call, we_lc, we_sInt, we_sCnt, wc_no, wc_so, wo_no, wo_so, ws_nil, ws_cons, ws_star, wi_val, wi_rg1, wi_rg2, wi_enum, wi_zip, wi_zips, we_idx, we_rl1, we_rl2, putX_nil, putX_no, wt_turn, O1_some, O2_some, O3_some, O1_ite, asB_b, asI_i, frC_int, frN_int, vals_nil, vals_cons, getV_zero, getV_succ, asgT_n, asgT_t, asgTs_n, asgTs_c, putT_n, putT_t, putTs_n, putTs_c, putAll_n, putAll_c, wipe_n, wipe_c, List.map_cons, List.map_nil, List.set_cons_succ, List.set_cons_zero, Option.bind_some, Option.map_some, Option.map_none, op2_add, op2_addT, op2_addL, op2_sub, op2_mul, op2_fdiv, op2_mod, cm2_lt, cm2_le, cm2_gt, cm2_ge, bi_lenL, bi_lenT, bi_tupL, bi_tupT, bi_lstL, bi_lstT, bi_int, bi_bool, bi_abs, bi_max, bi_min, bi_sum, bi_all, seqOf_l, seqOf_t, bi_sorted, bi_repr, iop_a, iop_s, iop_m, itemsL, itemsT, ty1, ty2, ty3, ty4, ty5, ty6, ty7, ty8, ty9, ty10, isN0, isN1, isN2, isN3, isN4, isN5, decide_eq_true_eq, if_true, Bool.true_or, Bool.or_true, Bool.true_and, Bool.and_true, Bool.false_eq_true, if_false, noL_int, noL_bool, noL_tup, noLs_nil, noLs_cons, pints_map, pbools_map, Option.map_some, Bool.or_self, Bool.and_self, Bool.or_false, Bool.false_or, noLs_ints, ix0, ix1, ix2, frC_bool, frC_tup, frC_lst, biFr_tup, biFr_lst, biFr_int, frN_lst, frN_tup, frN_bool, cut2, slD_t, slD_l, true_and, and_true, tyOf, sgB, Bool.not_true, Bool.not_false] at q ⊢ <;> first | exact q | skip
  rename_i i
  have hs : SeqAt.shaped (.int i) = true := hx.shaped (by omega)
  refine ⟨fits_of (by simp), ?_⟩
  rw [in_pm hs]
  exact q
theorem isArrows (h : okF 5 8 n rs) (v : D) (hd : dp < 60) (hv : ∀ xs, v = .tuple xs → xs.length < 1000 ∧ ∀ x ∈ xs, Nice dp b x) (q : Q (.bool (marksB rs.length v)) s) : O2 (callK T W (k + 2) 1 [eF n rs, v] s) Q := by
  refine call_ok (d := f1) rfl rfl ?_
  show WSs _ _ f1.body ⟨[some (eF n rs, noL (eF n rs)), some (v, noL v), none], s⟩ _
  unfold f1
  cases v <;> simp only [eF, wss_nil, wss_cons, w_ifs, w_ret, w_retN, w_pass, w_drop, w_sSet, w_sPop, we_var, we_none, we_tru, we_fls, we_int, we_str, we_op, we_neg, we_cmp, we_chain, we_isN, we_notN, we_isT, we_notT, we_not, we_and, we_or, we_ite, we_tup, we_lst, we_ix, we_sl, we_rev, we_bi, we_isi, we_call, we_lc, we_sInt, we_sCnt, wc_no, wc_so, wo_no, wo_so, ws_nil, ws_cons, ws_star, wi_val, wi_rg1, wi_rg2, wi_enum, wi_zip, wi_zips, we_idx, we_rl1, we_rl2, putX_nil, putX_no, wt_turn, O1_some, O2_some, O3_some, O1_ite, asB_b, asI_i, frC_int, frN_int, vals_nil, vals_cons, getV_zero, getV_succ, asgT_n, asgT_t, asgTs_n, asgTs_c, putT_n, putT_t, putTs_n, putTs_c, putAll_n, putAll_c, wipe_n, wipe_c, List.map_cons, List.map_nil, List.set_cons_succ, List.set_cons_zero, Option.bind_some, Option.map_some, Option.map_none, op2_add, op2_addT, op2_addL, op2_sub, op2_mul, op2_fdiv, op2_mod, cm2_lt, cm2_le, cm2_gt, cm2_ge, bi_lenL, bi_lenT, bi_tupL, bi_tupT, bi_lstL, bi_lstT, bi_int, bi_bool, bi_abs, bi_max, bi_min, bi_sum, bi_all, seqOf_l, seqOf_t, bi_sorted, bi_repr, iop_a, iop_s, iop_m, itemsL, itemsT, ty1, ty2, ty3, ty4, ty5, ty6, ty7, ty8, ty9, ty10, isN0, isN1, isN2, isN3, isN4, isN5, decide_eq_true_eq, if_true, Bool.true_or, Bool.or_true, Bool.true_and, Bool.and_true, Bool.false_eq_true, if_false, noL_int, noL_bool, noL_tup, noLs_nil, noLs_cons, pints_map, pbools_map, Option.map_some, Bool.or_self, Bool.and_self, Bool.or_false, Bool.false_or, noLs_ints, ix0, ix1, ix2, frC_bool, frC_tup, frC_lst, biFr_tup, biFr_lst, biFr_int, frN_lst, frN_tup, frN_bool, cut2, slD_t, slD_l, true_and, and_true, tyOf, marksB, cm2_eqI, List.length_map] at q ⊢ <;> first | exact q | skip
  rename_i xs
  obtain ⟨hx, hn⟩ := hv xs rfl
  by_cases hl : xs.length = rs.length
  · simp only [hl, beq_self_eq_true, if_true, decide_true, Bool.true_and] at q ⊢
    refine ⟨fits_of (by omega), ?_⟩
    have em : xs.map (fun x => x) = xs := List.map_id' xs
    rw [← em]
    refine o3_map (e := fun x => x) (fun x => .bool (sgB x)) (fun x hx => ?_) ?_
    · simp only [wss_nil, wss_cons, w_ifs, w_ret, w_retN, w_pass, w_drop, w_sSet, w_sPop, we_var, we_none, we_tru, we_fls, we_int, we_str, we_op, we_neg, we_cmp, we_chain, we_isN, we_notN, we_isT, we_notT, we_not, we_and, we_or, we_ite, we_tup, we_lst, we_ix, we_sl, we_rev, we_bi, we_isi, we_call, we_lc, we_sInt, we_sCnt, wc_no, wc_so, wo_no, wo_so, ws_nil, ws_cons, ws_star, wi_val, wi_rg1, wi_rg2, wi_enum, wi_zip, wi_zips, we_idx, we_rl1, we_rl2, putX_nil, putX_no, wt_turn, O1_some, O2_some, O3_some, O1_ite, asB_b, asI_i, frC_int, frN_int, vals_nil, vals_cons, getV_zero, getV_succ, asgT_n, asgT_t, asgTs_n, asgTs_c, putT_n, putT_t, putTs_n, putTs_c, putAll_n, putAll_c, wipe_n, wipe_c, List.map_cons, List.map_nil, List.set_cons_succ, List.set_cons_zero, Option.bind_some, Option.map_some, Option.map_none, op2_add, op2_addT, op2_addL, op2_sub, op2_mul, op2_fdiv, op2_mod, cm2_lt, cm2_le, cm2_gt, cm2_ge, bi_lenL, bi_lenT, bi_tupL, bi_tupT, bi_lstL, bi_lstT, bi_int, bi_bool, bi_abs, bi_max, bi_min, bi_sum, bi_all, seqOf_l, seqOf_t, bi_sorted, bi_repr, iop_a, iop_s, iop_m, itemsL, itemsT, ty1, ty2, ty3, ty4, ty5, ty6, ty7, ty8, ty9, ty10, isN0, isN1, isN2, isN3, isN4, isN5, decide_eq_true_eq, if_true, Bool.true_or, Bool.or_true, Bool.true_and, Bool.and_true, Bool.false_eq_true, if_false, noL_int, noL_bool, noL_tup, noLs_nil, noLs_cons, pints_map, pbools_map, Option.map_some, Bool.or_self, Bool.and_self, Bool.or_false, Bool.false_or, noLs_ints, ix0, ix1, ix2, frC_bool, frC_tup, frC_lst, biFr_tup, biFr_lst, biFr_int, frN_lst, frN_tup, frN_bool, cut2, slD_t, slD_l, true_and, and_true]
      exact isSign x (hn x hx) hd ⟨rfl, by simp only [noL_bool, Bool.or_true], rfl⟩
    · have e : xs.map (fun x => (.bool (sgB x) : D)) = (xs.map sgB).map .bool := by rw [List.map_map]; rfl
      have ea : ((xs.map sgB).all id) = xs.all sgB := by rw [List.all_map]; rfl
      rw [e]
      simp only [wss_nil, wss_cons, w_ifs, w_ret, w_retN, w_pass, w_drop, w_sSet, w_sPop, we_var, we_none, we_tru, we_fls, we_int, we_str, we_op, we_neg, we_cmp, we_chain, we_isN, we_notN, we_isT, we_notT, we_not, we_and, we_or, we_ite, we_tup, we_lst, we_ix, we_sl, we_rev, we_bi, we_isi, we_call, we_lc, we_sInt, we_sCnt, wc_no, wc_so, wo_no, wo_so, ws_nil, ws_cons, ws_star, wi_val, wi_rg1, wi_rg2, wi_enum, wi_zip, wi_zips, we_idx, we_rl1, we_rl2, putX_nil, putX_no, wt_turn, O1_some, O2_some, O3_some, O1_ite, asB_b, asI_i, frC_int, frN_int, vals_nil, vals_cons, getV_zero, getV_succ, asgT_n, asgT_t, asgTs_n, asgTs_c, putT_n, putT_t, putTs_n, putTs_c, putAll_n, putAll_c, wipe_n, wipe_c, List.map_cons, List.map_nil, List.set_cons_succ, List.set_cons_zero, Option.bind_some, Option.map_some, Option.map_none, op2_add, op2_addT, op2_addL, op2_sub, op2_mul, op2_fdiv, op2_mod, cm2_lt, cm2_le, cm2_gt, cm2_ge, bi_lenL, bi_lenT, bi_tupL, bi_tupT, bi_lstL, bi_lstT, bi_int, bi_bool, bi_abs, bi_max, bi_min, bi_sum, bi_all, seqOf_l, seqOf_t, bi_sorted, bi_repr, iop_a, iop_s, iop_m, itemsL, itemsT, ty1, ty2, ty3, ty4, ty5, ty6, ty7, ty8, ty9, ty10, isN0, isN1, isN2, isN3, isN4, isN5, decide_eq_true_eq, if_true, Bool.true_or, Bool.or_true, Bool.true_and, Bool.and_true, Bool.false_eq_true, if_false, noL_int, noL_bool, noL_tup, noLs_nil, noLs_cons, pints_map, pbools_map, Option.map_some, Bool.or_self, Bool.and_self, Bool.or_false, Bool.false_or, noLs_ints, ix0, ix1, ix2, frC_bool, frC_tup, frC_lst, biFr_tup, biFr_lst, biFr_int, frN_lst, frN_tup, frN_bool, cut2, slD_t, slD_l, true_and, and_true, ea]
      exact q
  · simp only [hl, decide_false, Bool.false_and] at q
    have : ((xs.length : Int) == (rs.length : Int)) = false := by simp; omega
    simp only [this, Bool.false_eq_true, if_false]
    exact q
theorem cm2_nilE {ys : List D} (h : SeqAt.shaped (.list ys) = true) : cm2 .eq (.list ys) (.list []) = some ys.isEmpty := by
  have h2 : SeqAt.shaped (.list []) = true := by decide
  rw [cm2_eq, h, h2]
  cases ys <;> simp [PyData.eqv, PyData.eqvAll]
theorem lawMarks (v : D) {m : Nat} (hd : dp < 60) (hv : ∀ xs, v = .tuple xs → xs.length < 1000 ∧ ∀ x ∈ xs, Nice dp b x) (q : Q (.bool (marksB m v)) s) : O2 (callK T W (k + 1) 14 [v, .int m] s) Q := by
  refine call_ok (d := f14) rfl rfl ?_
  show WSs _ _ f14.body ⟨[some (v, noL v), some (.int m, true), none], s⟩ _
  unfold f14
  cases v <;> simp only [wss_nil, wss_cons, w_ifs, w_ret, w_retN, w_pass, w_drop, w_sSet, w_sPop, we_var, we_none, we_tru, we_fls, we_int, we_str, we_op, we_neg, we_cmp, we_chain, we_isN, we_notN, we_isT, we_notT, we_not, we_and, we_or, we_ite, we_tup, we_lst, we_ix, we_sl, we_rev, we_bi, we_isi, we_call, we_lc, we_sInt, we_sCnt, wc_no, wc_so, wo_no, wo_so, ws_nil, ws_cons, ws_star, wi_val, wi_rg1, wi_rg2, wi_enum, wi_zip, wi_zips, we_idx, we_rl1, we_rl2, putX_nil, putX_no, wt_turn, O1_some, O2_some, O3_some, O1_ite, asB_b, asI_i, frC_int, frN_int, vals_nil, vals_cons, getV_zero, getV_succ, asgT_n, asgT_t, asgTs_n, asgTs_c, putT_n, putT_t, putTs_n, putTs_c, putAll_n, putAll_c, wipe_n, wipe_c, List.map_cons, List.map_nil, List.set_cons_succ, List.set_cons_zero, Option.bind_some, Option.map_some, Option.map_none, op2_add, op2_addT, op2_addL, op2_sub, op2_mul, op2_fdiv, op2_mod, cm2_lt, cm2_le, cm2_gt, cm2_ge, bi_lenL, bi_lenT, bi_tupL, bi_tupT, bi_lstL, bi_lstT, bi_int, bi_bool, bi_abs, bi_max, bi_min, bi_sum, bi_all, seqOf_l, seqOf_t, bi_sorted, bi_repr, iop_a, iop_s, iop_m, itemsL, itemsT, ty1, ty2, ty3, ty4, ty5, ty6, ty7, ty8, ty9, ty10, isN0, isN1, isN2, isN3, isN4, isN5, decide_eq_true_eq, if_true, Bool.true_or, Bool.or_true, Bool.true_and, Bool.and_true, Bool.false_eq_true, if_false, noL_int, noL_bool, noL_tup, noLs_nil, noLs_cons, pints_map, pbools_map, Option.map_some, Bool.or_self, Bool.and_self, Bool.or_false, Bool.false_or, noLs_ints, ix0, ix1, ix2, frC_bool, frC_tup, frC_lst, biFr_tup, biFr_lst, biFr_int, frN_lst, frN_tup, frN_bool, cut2, slD_t, slD_l, true_and, and_true, tyOf, marksB, cm2_neI, Bool.not_true, Bool.not_false] at q ⊢ <;> first | exact q | skip
  rename_i xs
  obtain ⟨hx, hn⟩ := hv xs rfl
  by_cases hl : xs.length = m
  · simp only [hl, beq_self_eq_true, Bool.not_true, Bool.false_eq_true, if_false, decide_true, Bool.true_and] at q ⊢
    refine ⟨fits_of (by omega), ?_⟩
    have em : xs.map (fun x => x) = xs := List.map_id' xs
    rw [← em]
    refine o3_filterA (e := fun x => x) (fun x => !sgB x) (fun x => x) (fun x hx => ?_) fun fr => ?_
    · cases x <;> simp only [wss_nil, wss_cons, w_ifs, w_ret, w_retN, w_pass, w_drop, w_sSet, w_sPop, we_var, we_none, we_tru, we_fls, we_int, we_str, we_op, we_neg, we_cmp, we_chain, we_isN, we_notN, we_isT, we_notT, we_not, we_and, we_or, we_ite, we_tup, we_lst, we_ix, we_sl, we_rev, we_bi, we_isi, we_call, we_lc, we_sInt, we_sCnt, wc_no, wc_so, wo_no, wo_so, ws_nil, ws_cons, ws_star, wi_val, wi_rg1, wi_rg2, wi_enum, wi_zip, wi_zips, we_idx, we_rl1, we_rl2, putX_nil, putX_no, wt_turn, O1_some, O2_some, O3_some, O1_ite, asB_b, asI_i, frC_int, frN_int, vals_nil, vals_cons, getV_zero, getV_succ, asgT_n, asgT_t, asgTs_n, asgTs_c, putT_n, putT_t, putTs_n, putTs_c, putAll_n, putAll_c, wipe_n, wipe_c, List.map_cons, List.map_nil, List.set_cons_succ, List.set_cons_zero, Option.bind_some, Option.map_some, Option.map_none, op2_add, op2_addT, op2_addL, op2_sub, op2_mul, op2_fdiv, op2_mod, cm2_lt, cm2_le, cm2_gt, cm2_ge, bi_lenL, bi_lenT, bi_tupL, bi_tupT, bi_lstL, bi_lstT, bi_int, bi_bool, bi_abs, bi_max, bi_min, bi_sum, bi_all, seqOf_l, seqOf_t, bi_sorted, bi_repr, iop_a, iop_s, iop_m, itemsL, itemsT, ty1, ty2, ty3, ty4, ty5, ty6, ty7, ty8, ty9, ty10, isN0, isN1, isN2, isN3, isN4, isN5, decide_eq_true_eq, if_true, Bool.true_or, Bool.or_true, Bool.true_and, Bool.and_true, Bool.false_eq_true, if_false, noL_int, noL_bool, noL_tup, noLs_nil, noLs_cons, pints_map, pbools_map, Option.map_some, Bool.or_self, Bool.and_self, Bool.or_false, Bool.false_or, noLs_ints, ix0, ix1, ix2, frC_bool, frC_tup, frC_lst, biFr_tup, biFr_lst, biFr_int, frN_lst, frN_tup, frN_bool, cut2, slD_t, slD_l, true_and, and_true, tyOf, sgB, Bool.not_true, Bool.not_false] <;> try simp
      rename_i i
      rw [nin_pm ((hn _ hx).shaped (by omega))]
      simp only [O1_some]
      refine ⟨fits_of (by simp), ?_⟩
      split <;> simp_all
    · rw [List.map_id']
      have sh : SeqAt.shaped (.list (xs.filter fun x => !sgB x)) = true := (nice_lst fun x hx => hn x (List.mem_filter.mp hx).1).shaped (by omega)
      refine ⟨fits_of (by simp), ?_⟩
      rw [cm2_nilE sh]
      have : (xs.filter fun x => !sgB x).isEmpty = xs.all sgB := by
        rw [Bool.eq_iff_iff, List.isEmpty_iff, List.filter_eq_nil_iff, List.all_eq_true]
        simp
      rw [this]
      exact q
  · simp only [hl, decide_false, Bool.false_and] at q
    have : ((xs.length : Int) == (m : Int)) = false := by simp; omega
    simp only [this, Bool.not_false, if_true]
    exact q
end
/-! ### drawn marks -/
section
variable {k : Nat} {s : Src} {Q : D → Src → Prop}
theorem drawnMarks {m : Int} (h0 : 0 ≤ m) (hm : m ≤ 8) (q : ∀ ms s', ms.length = m.toNat → (∀ x ∈ ms, sg x) → Q (eRow ms) s') : O2 (callK T W (k + 3) 13 [.int m] s) Q := by
  refine call_ok (d := f13) rfl rfl ?_
  show WSs _ _ f13.body ⟨[none, some (.int m, true), none], s⟩ _
  unfold f13
  simp only [wss_nil, wss_cons, w_ifs, w_ret, w_retN, w_pass, w_drop, w_sSet, w_sPop, we_var, we_none, we_tru, we_fls, we_int, we_str, we_op, we_neg, we_cmp, we_chain, we_isN, we_notN, we_isT, we_notT, we_not, we_and, we_or, we_ite, we_tup, we_lst, we_ix, we_sl, we_rev, we_bi, we_isi, we_call, we_lc, we_sInt, we_sCnt, wc_no, wc_so, wo_no, wo_so, ws_nil, ws_cons, ws_star, wi_val, wi_rg1, wi_rg2, wi_enum, wi_zip, wi_zips, we_idx, we_rl1, we_rl2, putX_nil, putX_no, wt_turn, O1_some, O2_some, O3_some, O1_ite, asB_b, asI_i, frC_int, frN_int, vals_nil, vals_cons, getV_zero, getV_succ, asgT_n, asgT_t, asgTs_n, asgTs_c, putT_n, putT_t, putTs_n, putTs_c, putAll_n, putAll_c, wipe_n, wipe_c, List.map_cons, List.map_nil, List.set_cons_succ, List.set_cons_zero, Option.bind_some, Option.map_some, Option.map_none, op2_add, op2_addT, op2_addL, op2_sub, op2_mul, op2_fdiv, op2_mod, cm2_lt, cm2_le, cm2_gt, cm2_ge, bi_lenL, bi_lenT, bi_tupL, bi_tupT, bi_lstL, bi_lstT, bi_int, bi_bool, bi_abs, bi_max, bi_min, bi_sum, bi_all, seqOf_l, seqOf_t, bi_sorted, bi_repr, iop_a, iop_s, iop_m, itemsL, itemsT, ty1, ty2, ty3, ty4, ty5, ty6, ty7, ty8, ty9, ty10, isN0, isN1, isN2, isN3, isN4, isN5, decide_eq_true_eq, if_true, Bool.true_or, Bool.or_true, Bool.true_and, Bool.and_true, Bool.false_eq_true, if_false, noL_int, noL_bool, noL_tup, noLs_nil, noLs_cons, pints_map, pbools_map, Option.map_some, Bool.or_self, Bool.and_self, Bool.or_false, Bool.false_or, noLs_ints, ix0, ix1, ix2, frC_bool, frC_tup, frC_lst, biFr_tup, biFr_lst, biFr_int, frN_lst, frN_tup, frN_bool, cut2, slD_t, slD_l, true_and, and_true]
  refine ⟨okRg_of (by omega) (by omega) (by omega) (by omega), fits_of (by simp only [range_len]; omega), ?_⟩
  refine o3_rangeR (fun _ d => ∃ x, sg x ∧ d = .int x) (fun i hi s => ?_) fun xs s' hx => ?_
  · simp only [wss_nil, wss_cons, w_ifs, w_ret, w_retN, w_pass, w_drop, w_sSet, w_sPop, we_var, we_none, we_tru, we_fls, we_int, we_str, we_op, we_neg, we_cmp, we_chain, we_isN, we_notN, we_isT, we_notT, we_not, we_and, we_or, we_ite, we_tup, we_lst, we_ix, we_sl, we_rev, we_bi, we_isi, we_call, we_lc, we_sInt, we_sCnt, wc_no, wc_so, wo_no, wo_so, ws_nil, ws_cons, ws_star, wi_val, wi_rg1, wi_rg2, wi_enum, wi_zip, wi_zips, we_idx, we_rl1, we_rl2, putX_nil, putX_no, wt_turn, O1_some, O2_some, O3_some, O1_ite, asB_b, asI_i, frC_int, frN_int, vals_nil, vals_cons, getV_zero, getV_succ, asgT_n, asgT_t, asgTs_n, asgTs_c, putT_n, putT_t, putTs_n, putTs_c, putAll_n, putAll_c, wipe_n, wipe_c, List.map_cons, List.map_nil, List.set_cons_succ, List.set_cons_zero, Option.bind_some, Option.map_some, Option.map_none, op2_add, op2_addT, op2_addL, op2_sub, op2_mul, op2_fdiv, op2_mod, cm2_lt, cm2_le, cm2_gt, cm2_ge, bi_lenL, bi_lenT, bi_tupL, bi_tupT, bi_lstL, bi_lstT, bi_int, bi_bool, bi_abs, bi_max, bi_min, bi_sum, bi_all, seqOf_l, seqOf_t, bi_sorted, bi_repr, iop_a, iop_s, iop_m, itemsL, itemsT, ty1, ty2, ty3, ty4, ty5, ty6, ty7, ty8, ty9, ty10, isN0, isN1, isN2, isN3, isN4, isN5, decide_eq_true_eq, if_true, Bool.true_or, Bool.or_true, Bool.true_and, Bool.and_true, Bool.false_eq_true, if_false, noL_int, noL_bool, noL_tup, noLs_nil, noLs_cons, pints_map, pbools_map, Option.map_some, Bool.or_self, Bool.and_self, Bool.or_false, Bool.false_or, noLs_ints, ix0, ix1, ix2, frC_bool, frC_tup, frC_lst, biFr_tup, biFr_lst, biFr_int, frN_lst, frN_tup, frN_bool, cut2, slD_t, slD_l, true_and, and_true]
    refine ⟨fits_of (by simp), ?_⟩
    refine of_ok hPick hOf hW rfl (by simp) (by simp) fun d hd s' => ?_
    simp only [List.mem_cons, List.not_mem_nil, or_false] at hd
    rcases hd with rfl | rfl
    · exact ⟨⟨1, .inl rfl, rfl⟩, rfl⟩
    · exact ⟨⟨-1, .inr rfl, rfl⟩, rfl⟩
  · obtain ⟨ms, rfl, e2, e3⟩ := all2_ints hx
    exact q ms _ (by simpa using e2) e3
end
theorem lawFrame {k : Nat} {s : Src} {Q : D → Src → Prop} (q : ∀ n rs s', okF 5 8 n rs → Q (eF n rs) s') : O2 (callK T W (k + 3) 9 [.int 5, .int 8] s) Q :=
  frame_ok (most := 5) (many := 8) hPick hOf hMix hFrame hW (by decide) (by decide) (by decide) q
theorem eF_str {n : Int} {rs : List Rd} (h : okF 5 8 n rs) : cm2 .ne (.str (eF n rs).shown) (.str (eF n rs).shown) = some false := cm2_neS (nice_F h (by omega) (by omega)).pl
theorem eF_rep {n : Int} {rs : List Rd} (h : okF 5 8 n rs) : reprOk (eF n rs) = true := (nice_F h (by omega) (by omega)).repr (by omega) (by omega)
theorem nice_sub {dp b : Nat} {xs : List D} (h : Nice dp b (.tuple xs)) : ∀ x ∈ xs, Nice dp b x := fun x hx => by
  obtain ⟨h1, h2, h3⟩ := h
  simp only [PV.plain] at h1
  simp only [PyData.depth] at h2
  simp only [PV.sz] at h3
  have key : ∀ {ys : List D}, plains ys = true → x ∈ ys → PV.plain x = true ∧ x.depth ≤ PyData.depthAll ys ∧ PV.sz x ≤ szs ys := fun {ys} => by
    induction ys with
    | nil => intro _ h; cases h
    | cons y r ih =>
      intro hp hm
      simp only [plains, Bool.and_eq_true] at hp
      simp only [PyData.depthAll, szs]
      rcases List.mem_cons.mp hm with rfl | hm
      · exact ⟨hp.1, by omega, by omega⟩
      · obtain ⟨a, b, c⟩ := ih hp.2 hm
        exact ⟨a, by omega, by omega⟩
  obtain ⟨a, b, c⟩ := key h1 hx
  exact ⟨a, by omega, by omega⟩
def Val (v : D) : Prop := Nice 10 10000 v ∧ ∀ xs, v = .tuple xs → xs.length < 1000
theorem Val.dueOk {v : D} (h : Val v) : ∀ xs, v = .tuple xs → xs.length < 1000 ∧ ∀ x ∈ xs, Nice 10 10000 x := fun xs e => ⟨h.2 xs e, by subst e; exact nice_sub h.1⟩
theorem nice_bool {b : Bool} : Nice 0 21 (.bool b) := ⟨by simp [PV.plain], by simp [PyData.depth], by simp [PV.sz]⟩
theorem nice_none : Nice 0 21 .none := ⟨by simp [PV.plain], by simp [PyData.depth], by simp [PV.sz]⟩
def Odd (d : D) : Prop := d = .none ∨ d = .bool true ∨ d = .int 0 ∨ d = .int 2 ∨ d = .str "1" ∨ d = .tuple [.int 1] ∨ d = .list [.int 1] ∨ d = .int (-1)
theorem nice_word1 : Nice 0 21 (.str "1") := ⟨by simp [PV.plain], by simp [PyData.depth], by simp [PV.sz]⟩
theorem Odd.nice {d : D} (h : Odd d) : Nice 1 30 d := by
  rcases h with rfl | rfl | rfl | rfl | rfl | rfl | rfl | rfl
  · exact nice_none.mono (by omega) (by omega)
  · exact nice_bool.mono (by omega) (by omega)
  · exact (nice_int (by decide)).mono (by omega) (by omega)
  · exact (nice_int (by decide)).mono (by omega) (by omega)
  · exact nice_word1.mono (by omega) (by omega)
  · exact (nice_ints (l := [1]) (by simp)).mono (by omega) (by simp)
  · exact (nice_lst (dp := 0) (b := 21) (xs := [.int 1]) (by simp; exact nice_int (by decide))).mono (by omega) (by simp)
  · exact (nice_int (by decide)).mono (by omega) (by omega)
theorem Odd.val {d : D} (h : Odd d) : Val d := ⟨h.nice.mono (by omega) (by omega), fun xs e => by
  rcases h with rfl | rfl | rfl | rfl | rfl | rfl | rfl | rfl <;> cases e
  simp⟩
theorem val_tup {xs : List D} (h : ∀ x ∈ xs, Nice 1 30 x) (hl : xs.length ≤ 100) : Val (.tuple xs) := ⟨(nice_tup h).mono (by omega) (by omega), fun ys e => by cases e; omega⟩
theorem nice_row {row : List Int} (h : ∀ x ∈ row, x.natAbs < 100) : ∀ x ∈ row.map PyData.int, Nice 1 30 x := fun x hx => by
  obtain ⟨i, hi, rfl⟩ := List.mem_map.mp hx
  have := h i hi
  exact (nice_int (by omega)).mono (by omega) (by omega)
theorem lawMarks2 {k : Nat} {s : Src} {Q : D → Src → Prop} {dp b : Nat} (v : D) {m : Nat} {mm : Int} (hmm : mm = m) (hd : dp < 60) (hv : ∀ xs, v = .tuple xs → xs.length < 1000 ∧ ∀ x ∈ xs, Nice dp b x) (q : Q (.bool (marksB m v)) s) : Box (O2 (callK T W (k + 1) 14 [v, .int mm] s) Q) := by
  subst hmm
  exact ⟨lawMarks v hd hv q⟩
theorem lastOne {k : Nat} {s : Src} {Q : D → Src → Prop} {d0 d1 : D} {n : Int} {rs : List Rd} {hs : List Int} (h0 : d0 = eF n rs) (h1 : d1 = eRow hs) (h : okF 5 8 n rs) (hl : hs.length = n.toNat) (hh : ∀ x ∈ hs, x.natAbs < 100) (q : Q (arr (rs.map (rd hs))) s) : Box (O2 (callK T W (k + 6) 4 [d0, d1] s) Q) := by
  subst h0 h1
  exact ⟨arrows4 h hl hh q⟩
theorem okLast : okF 5 8 1 [(0, 0, -1)] := ⟨by decide, by decide, by decide, fun r hr => by
  rw [List.mem_singleton.mp hr]
  simp [okR]⟩
theorem eLast0 : (PyData.tuple [.int 1, .tuple [.tuple [.int 0, .int 0, .int (-1)]]] : D) = eF 1 [(0, 0, -1)] := rfl
theorem eLast1 : (PyData.tuple [.int (-3)] : D) = eRow [-3] := rfl
theorem eLast2 : cm2 .eq (arr (([(0, 0, -1)] : List Rd).map (rd [-3]))) (.tuple [.int (-1)]) = some true :=
  cm2_eqD (d := .tuple [.int (-1)]) (nice_ints (l := [-1]) (by simp)) (by omega)
theorem mulZ {mm : Int} {l : Nat} (h : mm = l) (hl : l ≤ 8) : op2 .mul (.list [.int 0]) (.int mm) = some (.list ((List.replicate l (0 : Int)).map .int)) := by
  subst h
  rw [op2_mulL, if_pos (mulL_ok (by omega) (by omega) (by simp; omega)), rep_one]
  simp
theorem sg_small {x : Int} (h : sg x) : x.natAbs < 100 := by rcases h with rfl | rfl <;> decide
section
variable {k : Nat}
theorem lawTrue (ns : List Int) : WSs (callK T W (k + 6)) W lawC ⟨List.replicate lawN.length none, srcOf ns⟩ fun fl _ => fl = .rt (.bool true) := by
  show WSs _ _ lawC ⟨[none, none, none, none, none, none, none, none, none, none, none, none, none, none, none, none, none, none, none, none, none, none, none, none, none], srcOf ns⟩ _
  unfold lawC
  refine wss_seq (fun _ => True) (w_for (fun _ st => ∃ (x2 x3 x4 x5 x6 x7 x8 x9 x10 x11 x12 x13 x14 x15 x16 x17 x18 x19 x20 x21 : Option (D × Bool)), st.env = [none, none, x2, x3, x4, x5, x6, x7, x8, x9, x10, x11, x12, x13, x14, x15, x16, x17, x18, x19, x20, x21, none, none, none]) ?_ ?_ fun _ _ => trivial) ?_
  · simp only [wss_nil, wss_one, w_ifs, w_ret, w_retN, w_pass, w_drop, w_sSet, w_sPop, we_var, we_none, we_tru, we_fls, we_int, we_str, we_op, we_neg, we_cmp, we_chain, we_isN, we_notN, we_isT, we_notT, we_not, we_and, we_or, we_ite, we_tup, we_lst, we_ix, we_sl, we_rev, we_bi, we_isi, we_call, we_lc, we_sInt, we_sCnt, wc_no, wc_so, wo_no, wo_so, ws_nil, ws_cons, ws_star, wi_val, wi_rg1, wi_rg2, wi_enum, wi_zip, wi_zips, we_idx, we_rl1, we_rl2, putX_nil, putX_no, wt_turn, O1_some, O2_some, O3_some, O1_ite, asB_b, asI_i, frC_int, frN_int, vals_nil, vals_cons, getV_zero, getV_succ, asgT_n, asgT_t, asgTs_n, asgTs_c, putT_n, putT_t, putTs_n, putTs_c, putAll_n, putAll_c, wipe_n, wipe_c, List.map_cons, List.map_nil, List.set_cons_succ, List.set_cons_zero, Option.bind_some, Option.map_some, Option.map_none, op2_add, op2_addT, op2_addL, op2_sub, op2_mul, op2_fdiv, op2_mod, cm2_lt, cm2_le, cm2_gt, cm2_ge, bi_lenL, bi_lenT, bi_tupL, bi_tupT, bi_lstL, bi_lstT, bi_int, bi_bool, bi_abs, bi_max, bi_min, bi_sum, bi_all, seqOf_l, seqOf_t, bi_sorted, bi_repr, iop_a, iop_s, iop_m, itemsL, itemsT, ty1, ty2, ty3, ty4, ty5, ty6, ty7, ty8, ty9, ty10, isN0, isN1, isN2, isN3, isN4, isN5, decide_eq_true_eq, if_true, Bool.true_or, Bool.or_true, Bool.true_and, Bool.and_true, Bool.false_eq_true, if_false, noL_int, noL_bool, noL_tup, noLs_nil, noLs_cons, pints_map, pbools_map, Option.map_some, Bool.or_self, Bool.and_self, Bool.or_false, Bool.false_or, noLs_ints, ix0, ix1, ix2, frC_bool, frC_tup, frC_lst, biFr_tup, biFr_lst, biFr_int, frN_lst, frN_tup, frN_bool, cut2, slD_t, slD_l, true_and, and_true]
    exact ⟨okRg_of (by decide) (by decide) (by decide) (by decide), none, none, none, none, none, none, none, none, none, none, none, none, none, none, none, none, none, none, none, none, rfl⟩
  · rintro d rest ⟨env, s⟩ ⟨x2, x3, x4, x5, x6, x7, x8, x9, x10, x11, x12, x13, x14, x15, x16, x17, x18, x19, x20, x21, he⟩
    simp only at he
    subst he
    simp only [putT_n, O1_some, List.set_cons_succ, List.set_cons_zero]
    refine wss_seq (fun st => ∃ (n : Int) (rs : List Rd) (m3 : Bool) (x2 x4 x5 x6 x7 x8 x9 x10 x11 x12 x13 x14 x15 x16 x17 x18 x19 x20 x21 : Option (D × Bool)), okF 5 8 n rs ∧ st.env = [none, none, x2, some (eF n rs, m3), x4, x5, x6, x7, x8, x9, x10, x11, x12, x13, x14, x15, x16, x17, x18, x19, x20, x21, none, none, none]) (w_asg ?_) ?_
    · simp only [wss_nil, wss_one, w_ifs, w_ret, w_retN, w_pass, w_drop, w_sSet, w_sPop, we_var, we_none, we_tru, we_fls, we_int, we_str, we_op, we_neg, we_cmp, we_chain, we_isN, we_notN, we_isT, we_notT, we_not, we_and, we_or, we_ite, we_tup, we_lst, we_ix, we_sl, we_rev, we_bi, we_isi, we_call, we_lc, we_sInt, we_sCnt, wc_no, wc_so, wo_no, wo_so, ws_nil, ws_cons, ws_star, wi_val, wi_rg1, wi_rg2, wi_enum, wi_zip, wi_zips, we_idx, we_rl1, we_rl2, putX_nil, putX_no, wt_turn, O1_some, O2_some, O3_some, O1_ite, asB_b, asI_i, frC_int, frN_int, vals_nil, vals_cons, getV_zero, getV_succ, asgT_n, asgT_t, asgTs_n, asgTs_c, putT_n, putT_t, putTs_n, putTs_c, putAll_n, putAll_c, wipe_n, wipe_c, List.map_cons, List.map_nil, List.set_cons_succ, List.set_cons_zero, Option.bind_some, Option.map_some, Option.map_none, op2_add, op2_addT, op2_addL, op2_sub, op2_mul, op2_fdiv, op2_mod, cm2_lt, cm2_le, cm2_gt, cm2_ge, bi_lenL, bi_lenT, bi_tupL, bi_tupT, bi_lstL, bi_lstT, bi_int, bi_bool, bi_abs, bi_max, bi_min, bi_sum, bi_all, seqOf_l, seqOf_t, bi_sorted, bi_repr, iop_a, iop_s, iop_m, itemsL, itemsT, ty1, ty2, ty3, ty4, ty5, ty6, ty7, ty8, ty9, ty10, isN0, isN1, isN2, isN3, isN4, isN5, decide_eq_true_eq, if_true, Bool.true_or, Bool.or_true, Bool.true_and, Bool.and_true, Bool.false_eq_true, if_false, noL_int, noL_bool, noL_tup, noLs_nil, noLs_cons, pints_map, pbools_map, Option.map_some, Bool.or_self, Bool.and_self, Bool.or_false, Bool.false_or, noLs_ints, ix0, ix1, ix2, frC_bool, frC_tup, frC_lst, biFr_tup, biFr_lst, biFr_int, frN_lst, frN_tup, frN_bool, cut2, slD_t, slD_l, true_and, and_true]
      refine lawFrame fun n rs s' hF => ?_
      exact ⟨by simp only [noL_F, Bool.or_true], ⟨n, rs, _, _, _, _, _, _, _, _, _, _, _, _, _, _, _, _, _, _, _, _, hF, rfl⟩⟩
    clear x2 x3 x4 x5 x6 x7 x8 x9 x10 x11 x12 x13 x14 x15 x16 x17 x18 x19 x20 x21
    rintro ⟨env, s⟩ ⟨n, rs, m3, x2, x4, x5, x6, x7, x8, x9, x10, x11, x12, x13, x14, x15, x16, x17, x18, x19, x20, x21, hF, he⟩
    simp only at he
    subst he
    have hF' := hF
    obtain ⟨f1, f2, f3, f4⟩ := hF'
    refine wss_seq (fun st => ∃ (mm : Int) (m3 m4 m5 m6 : Bool) (x2 x7 x8 x9 x10 x11 x12 x13 x14 x15 x16 x17 x18 x19 x20 x21 : Option (D × Bool)), mm = rs.length ∧ st.env = [none, none, x2, some (eF n rs, m3), some (.int n, m4), some (.str (eF n rs).shown, m5), some (.int mm, m6), x7, x8, x9, x10, x11, x12, x13, x14, x15, x16, x17, x18, x19, x20, x21, none, none, none]) (w_parF ?_) ?_
    · simp only [eF, wss_nil, wss_one, w_ifs, w_ret, w_retN, w_pass, w_drop, w_sSet, w_sPop, we_var, we_none, we_tru, we_fls, we_int, we_str, we_op, we_neg, we_cmp, we_chain, we_isN, we_notN, we_isT, we_notT, we_not, we_and, we_or, we_ite, we_tup, we_lst, we_ix, we_sl, we_rev, we_bi, we_isi, we_call, we_lc, we_sInt, we_sCnt, wc_no, wc_so, wo_no, wo_so, ws_nil, ws_cons, ws_star, wi_val, wi_rg1, wi_rg2, wi_enum, wi_zip, wi_zips, we_idx, we_rl1, we_rl2, putX_nil, putX_no, wt_turn, O1_some, O2_some, O3_some, O1_ite, asB_b, asI_i, frC_int, frN_int, vals_nil, vals_cons, getV_zero, getV_succ, asgT_n, asgT_t, asgTs_n, asgTs_c, putT_n, putT_t, putTs_n, putTs_c, putAll_n, putAll_c, wipe_n, wipe_c, List.map_cons, List.map_nil, List.set_cons_succ, List.set_cons_zero, Option.bind_some, Option.map_some, Option.map_none, op2_add, op2_addT, op2_addL, op2_sub, op2_mul, op2_fdiv, op2_mod, cm2_lt, cm2_le, cm2_gt, cm2_ge, bi_lenL, bi_lenT, bi_tupL, bi_tupT, bi_lstL, bi_lstT, bi_int, bi_bool, bi_abs, bi_max, bi_min, bi_sum, bi_all, seqOf_l, seqOf_t, bi_sorted, bi_repr, iop_a, iop_s, iop_m, itemsL, itemsT, ty1, ty2, ty3, ty4, ty5, ty6, ty7, ty8, ty9, ty10, isN0, isN1, isN2, isN3, isN4, isN5, decide_eq_true_eq, if_true, Bool.true_or, Bool.or_true, Bool.true_and, Bool.and_true, Bool.false_eq_true, if_false, noL_int, noL_bool, noL_tup, noLs_nil, noLs_cons, pints_map, pbools_map, Option.map_some, Bool.or_self, Bool.and_self, Bool.or_false, Bool.false_or, noLs_ints, ix0, ix1, ix2, frC_bool, frC_tup, frC_lst, biFr_tup, biFr_lst, biFr_int, frN_lst, frN_tup, frN_bool, cut2, slD_t, slD_l, true_and, and_true, List.length_map]
      refine ⟨eF_rep hF, rfl, fits_of (by simp), ?_⟩
      exact ⟨_, _, _, _, _, _, _, _, _, _, _, _, _, _, _, _, _, _, _, _, _, rfl, rfl⟩
    clear m3 x2 x4 x5 x6 x7 x8 x9 x10 x11 x12 x13 x14 x15 x16 x17 x18 x19 x20 x21
    rintro ⟨env, s⟩ ⟨mm, m3, m4, m5, m6, x2, x7, x8, x9, x10, x11, x12, x13, x14, x15, x16, x17, x18, x19, x20, x21, hmm, he⟩
    simp only at he
    subst he
    refine wss_seq (fun st => ∃ (ms : List Int) (m3 m4 m5 m6 m7 : Bool) (x2 x8 x9 x10 x11 x12 x13 x14 x15 x16 x17 x18 x19 x20 x21 : Option (D × Bool)), ms.length = rs.length ∧ (∀ x ∈ ms, sg x) ∧ st.env = [none, none, x2, some (eF n rs, m3), some (.int n, m4), some (.str (eF n rs).shown, m5), some (.int mm, m6), some (eRow ms, m7), x8, x9, x10, x11, x12, x13, x14, x15, x16, x17, x18, x19, x20, x21, none, none, none]) (w_asg ?_) ?_
    · simp only [wss_nil, wss_one, w_ifs, w_ret, w_retN, w_pass, w_drop, w_sSet, w_sPop, we_var, we_none, we_tru, we_fls, we_int, we_str, we_op, we_neg, we_cmp, we_chain, we_isN, we_notN, we_isT, we_notT, we_not, we_and, we_or, we_ite, we_tup, we_lst, we_ix, we_sl, we_rev, we_bi, we_isi, we_call, we_lc, we_sInt, we_sCnt, wc_no, wc_so, wo_no, wo_so, ws_nil, ws_cons, ws_star, wi_val, wi_rg1, wi_rg2, wi_enum, wi_zip, wi_zips, we_idx, we_rl1, we_rl2, putX_nil, putX_no, wt_turn, O1_some, O2_some, O3_some, O1_ite, asB_b, asI_i, frC_int, frN_int, vals_nil, vals_cons, getV_zero, getV_succ, asgT_n, asgT_t, asgTs_n, asgTs_c, putT_n, putT_t, putTs_n, putTs_c, putAll_n, putAll_c, wipe_n, wipe_c, List.map_cons, List.map_nil, List.set_cons_succ, List.set_cons_zero, Option.bind_some, Option.map_some, Option.map_none, op2_add, op2_addT, op2_addL, op2_sub, op2_mul, op2_fdiv, op2_mod, cm2_lt, cm2_le, cm2_gt, cm2_ge, bi_lenL, bi_lenT, bi_tupL, bi_tupT, bi_lstL, bi_lstT, bi_int, bi_bool, bi_abs, bi_max, bi_min, bi_sum, bi_all, seqOf_l, seqOf_t, bi_sorted, bi_repr, iop_a, iop_s, iop_m, itemsL, itemsT, ty1, ty2, ty3, ty4, ty5, ty6, ty7, ty8, ty9, ty10, isN0, isN1, isN2, isN3, isN4, isN5, decide_eq_true_eq, if_true, Bool.true_or, Bool.or_true, Bool.true_and, Bool.and_true, Bool.false_eq_true, if_false, noL_int, noL_bool, noL_tup, noLs_nil, noLs_cons, pints_map, pbools_map, Option.map_some, Bool.or_self, Bool.and_self, Bool.or_false, Bool.false_or, noLs_ints, ix0, ix1, ix2, frC_bool, frC_tup, frC_lst, biFr_tup, biFr_lst, biFr_int, frN_lst, frN_tup, frN_bool, cut2, slD_t, slD_l, true_and, and_true]
      refine drawnMarks (by omega) (by omega) fun ms s' h1 h2 => ?_
      exact ⟨by simp only [noL_row, Bool.or_true], ⟨ms, _, _, _, _, _, _, _, _, _, _, _, _, _, _, _, _, _, _, _, _, by omega, h2, rfl⟩⟩
    clear m3 m4 m5 m6 x2 x7 x8 x9 x10 x11 x12 x13 x14 x15 x16 x17 x18 x19 x20 x21
    rintro ⟨env, s⟩ ⟨ms, m3, m4, m5, m6, m7, x2, x8, x9, x10, x11, x12, x13, x14, x15, x16, x17, x18, x19, x20, x21, hml, hms, he⟩
    simp only at he
    subst he
    refine wss_seq (fun st => ∃ (m3 m4 m5 m6 m7 : Bool) (x2 x9 x10 x11 x12 x13 x14 x15 x16 x17 x18 x19 x20 x21 : Option (D × Bool)), st.env = [none, none, x2, some (eF n rs, m3), some (.int n, m4), some (.str (eF n rs).shown, m5), some (.int mm, m6), some (eRow ms, m7), some (.list [], true), x9, x10, x11, x12, x13, x14, x15, x16, x17, x18, x19, x20, x21, none, none, none]) (w_asg ?_) ?_
    · simp only [wss_nil, wss_one, w_ifs, w_ret, w_retN, w_pass, w_drop, w_sSet, w_sPop, we_var, we_none, we_tru, we_fls, we_int, we_str, we_op, we_neg, we_cmp, we_chain, we_isN, we_notN, we_isT, we_notT, we_not, we_and, we_or, we_ite, we_tup, we_lst, we_ix, we_sl, we_rev, we_bi, we_isi, we_call, we_lc, we_sInt, we_sCnt, wc_no, wc_so, wo_no, wo_so, ws_nil, ws_cons, ws_star, wi_val, wi_rg1, wi_rg2, wi_enum, wi_zip, wi_zips, we_idx, we_rl1, we_rl2, putX_nil, putX_no, wt_turn, O1_some, O2_some, O3_some, O1_ite, asB_b, asI_i, frC_int, frN_int, vals_nil, vals_cons, getV_zero, getV_succ, asgT_n, asgT_t, asgTs_n, asgTs_c, putT_n, putT_t, putTs_n, putTs_c, putAll_n, putAll_c, wipe_n, wipe_c, List.map_cons, List.map_nil, List.set_cons_succ, List.set_cons_zero, Option.bind_some, Option.map_some, Option.map_none, op2_add, op2_addT, op2_addL, op2_sub, op2_mul, op2_fdiv, op2_mod, cm2_lt, cm2_le, cm2_gt, cm2_ge, bi_lenL, bi_lenT, bi_tupL, bi_tupT, bi_lstL, bi_lstT, bi_int, bi_bool, bi_abs, bi_max, bi_min, bi_sum, bi_all, seqOf_l, seqOf_t, bi_sorted, bi_repr, iop_a, iop_s, iop_m, itemsL, itemsT, ty1, ty2, ty3, ty4, ty5, ty6, ty7, ty8, ty9, ty10, isN0, isN1, isN2, isN3, isN4, isN5, decide_eq_true_eq, if_true, Bool.true_or, Bool.or_true, Bool.true_and, Bool.and_true, Bool.false_eq_true, if_false, noL_int, noL_bool, noL_tup, noLs_nil, noLs_cons, pints_map, pbools_map, Option.map_some, Bool.or_self, Bool.and_self, Bool.or_false, Bool.false_or, noLs_ints, ix0, ix1, ix2, frC_bool, frC_tup, frC_lst, biFr_tup, biFr_lst, biFr_int, frN_lst, frN_tup, frN_bool, cut2, slD_t, slD_l, true_and, and_true]
      exact ⟨fits_of (by simp), ⟨_, _, _, _, _, _, _, _, _, _, _, _, _, _, _, _, _, _, _, rfl⟩⟩
    clear m3 m4 m5 m6 m7 x2 x8 x9 x10 x11 x12 x13 x14 x15 x16 x17 x18 x19 x20 x21
    rintro ⟨env, s⟩ ⟨m3, m4, m5, m6, m7, x2, x9, x10, x11, x12, x13, x14, x15, x16, x17, x18, x19, x20, x21, he⟩
    simp only at he
    subst he
    refine wss_seq (fun st => ∃ (m3 m4 m5 m6 m7 : Bool) (x2 x9 x10 x11 x12 x13 x14 x15 x16 x17 x18 x19 x20 x21 : Option (D × Bool)), st.env = [none, none, x2, some (eF n rs, m3), some (.int n, m4), some (.str (eF n rs).shown, m5), some (.int mm, m6), some (eRow ms, m7), some (.list ((ends rs ms).map ePair), true), x9, x10, x11, x12, x13, x14, x15, x16, x17, x18, x19, x20, x21, none, none, none]) ?_ ?_
    · refine w_pre (fun p : Rd × Int => .tuple [eR p.1, .int p.2]) (fun pre st => ∃ (m3 m4 m5 m6 m7 : Bool) (x2 x9 x10 x11 x12 x13 x14 x15 x16 x17 x18 x19 x20 x21 : Option (D × Bool)), st.env = [none, none, x2, some (eF n rs, m3), some (.int n, m4), some (.str (eF n rs).shown, m5), some (.int mm, m6), some (eRow ms, m7), some (.list ((pre.map fun p : Rd × Int => (p.2, -p.1.2.2 * p.2)).map ePair), true), x9, x10, x11, x12, x13, x14, x15, x16, x17, x18, x19, x20, x21, none, none, none]) (rs.zip ms) ?_ ?_ ?_
      · simp only [eF, eRow, wss_nil, wss_one, w_ifs, w_ret, w_retN, w_pass, w_drop, w_sSet, w_sPop, we_var, we_none, we_tru, we_fls, we_int, we_str, we_op, we_neg, we_cmp, we_chain, we_isN, we_notN, we_isT, we_notT, we_not, we_and, we_or, we_ite, we_tup, we_lst, we_ix, we_sl, we_rev, we_bi, we_isi, we_call, we_lc, we_sInt, we_sCnt, wc_no, wc_so, wo_no, wo_so, ws_nil, ws_cons, ws_star, wi_val, wi_rg1, wi_rg2, wi_enum, wi_zip, wi_zips, we_idx, we_rl1, we_rl2, putX_nil, putX_no, wt_turn, O1_some, O2_some, O3_some, O1_ite, asB_b, asI_i, frC_int, frN_int, vals_nil, vals_cons, getV_zero, getV_succ, asgT_n, asgT_t, asgTs_n, asgTs_c, putT_n, putT_t, putTs_n, putTs_c, putAll_n, putAll_c, wipe_n, wipe_c, List.map_cons, List.map_nil, List.set_cons_succ, List.set_cons_zero, Option.bind_some, Option.map_some, Option.map_none, op2_add, op2_addT, op2_addL, op2_sub, op2_mul, op2_fdiv, op2_mod, cm2_lt, cm2_le, cm2_gt, cm2_ge, bi_lenL, bi_lenT, bi_tupL, bi_tupT, bi_lstL, bi_lstT, bi_int, bi_bool, bi_abs, bi_max, bi_min, bi_sum, bi_all, seqOf_l, seqOf_t, bi_sorted, bi_repr, iop_a, iop_s, iop_m, itemsL, itemsT, ty1, ty2, ty3, ty4, ty5, ty6, ty7, ty8, ty9, ty10, isN0, isN1, isN2, isN3, isN4, isN5, decide_eq_true_eq, if_true, Bool.true_or, Bool.or_true, Bool.true_and, Bool.and_true, Bool.false_eq_true, if_false, noL_int, noL_bool, noL_tup, noLs_nil, noLs_cons, pints_map, pbools_map, Option.map_some, Bool.or_self, Bool.and_self, Bool.or_false, Bool.false_or, noLs_ints, ix0, ix1, ix2, frC_bool, frC_tup, frC_lst, biFr_tup, biFr_lst, biFr_int, frN_lst, frN_tup, frN_bool, cut2, slD_t, slD_l, true_and, and_true, pairs_map, noL_Rs]
        exact ⟨_, _, _, _, _, _, _, _, _, _, _, _, _, _, _, _, _, _, _, rfl⟩
      · clear m3 m4 m5 m6 m7 x2 x9 x10 x11 x12 x13 x14 x15 x16 x17 x18 x19 x20 x21
        rintro pre pr post ⟨env, s⟩ hp ⟨m3, m4, m5, m6, m7, x2, x9, x10, x11, x12, x13, x14, x15, x16, x17, x18, x19, x20, x21, he⟩
        simp only at he
        subst he
        obtain ⟨r, m⟩ := pr
        have hz : (r, m) ∈ rs.zip ms := by rw [hp]; simp
        obtain ⟨g1, g2, g3, g4, g5⟩ := f4 r (List.of_mem_zip hz).1
        have hpl : pre.length ≤ 8 := by
          have := congrArg List.length hp
          simp only [List.length_zip, List.length_append, List.length_cons] at this
          omega
        simp only [eR, wss_nil, wss_one, w_ifs, w_ret, w_retN, w_pass, w_drop, w_sSet, w_sPop, we_var, we_none, we_tru, we_fls, we_int, we_str, we_op, we_neg, we_cmp, we_chain, we_isN, we_notN, we_isT, we_notT, we_not, we_and, we_or, we_ite, we_tup, we_lst, we_ix, we_sl, we_rev, we_bi, we_isi, we_call, we_lc, we_sInt, we_sCnt, wc_no, wc_so, wo_no, wo_so, ws_nil, ws_cons, ws_star, wi_val, wi_rg1, wi_rg2, wi_enum, wi_zip, wi_zips, we_idx, we_rl1, we_rl2, putX_nil, putX_no, wt_turn, O1_some, O2_some, O3_some, O1_ite, asB_b, asI_i, frC_int, frN_int, vals_nil, vals_cons, getV_zero, getV_succ, asgT_n, asgT_t, asgTs_n, asgTs_c, putT_n, putT_t, putTs_n, putTs_c, putAll_n, putAll_c, wipe_n, wipe_c, List.map_cons, List.map_nil, List.set_cons_succ, List.set_cons_zero, Option.bind_some, Option.map_some, Option.map_none, op2_add, op2_addT, op2_addL, op2_sub, op2_mul, op2_fdiv, op2_mod, cm2_lt, cm2_le, cm2_gt, cm2_ge, bi_lenL, bi_lenT, bi_tupL, bi_tupT, bi_lstL, bi_lstT, bi_int, bi_bool, bi_abs, bi_max, bi_min, bi_sum, bi_all, seqOf_l, seqOf_t, bi_sorted, bi_repr, iop_a, iop_s, iop_m, itemsL, itemsT, ty1, ty2, ty3, ty4, ty5, ty6, ty7, ty8, ty9, ty10, isN0, isN1, isN2, isN3, isN4, isN5, decide_eq_true_eq, if_true, Bool.true_or, Bool.or_true, Bool.true_and, Bool.and_true, Bool.false_eq_true, if_false, noL_int, noL_bool, noL_tup, noLs_nil, noLs_cons, pints_map, pbools_map, Option.map_some, Bool.or_self, Bool.and_self, Bool.or_false, Bool.false_or, noLs_ints, ix0, ix1, ix2, frC_bool, frC_tup, frC_lst, biFr_tup, biFr_lst, biFr_int, frN_lst, frN_tup, frN_bool, cut2, slD_t, slD_l, true_and, and_true]
        refine w_append ⟨_, rfl, ?_⟩
        simp only [wss_nil, wss_one, w_ifs, w_ret, w_retN, w_pass, w_drop, w_sSet, w_sPop, we_var, we_none, we_tru, we_fls, we_int, we_str, we_op, we_neg, we_cmp, we_chain, we_isN, we_notN, we_isT, we_notT, we_not, we_and, we_or, we_ite, we_tup, we_lst, we_ix, we_sl, we_rev, we_bi, we_isi, we_call, we_lc, we_sInt, we_sCnt, wc_no, wc_so, wo_no, wo_so, ws_nil, ws_cons, ws_star, wi_val, wi_rg1, wi_rg2, wi_enum, wi_zip, wi_zips, we_idx, we_rl1, we_rl2, putX_nil, putX_no, wt_turn, O1_some, O2_some, O3_some, O1_ite, asB_b, asI_i, frC_int, frN_int, vals_nil, vals_cons, getV_zero, getV_succ, asgT_n, asgT_t, asgTs_n, asgTs_c, putT_n, putT_t, putTs_n, putTs_c, putAll_n, putAll_c, wipe_n, wipe_c, List.map_cons, List.map_nil, List.set_cons_succ, List.set_cons_zero, Option.bind_some, Option.map_some, Option.map_none, op2_add, op2_addT, op2_addL, op2_sub, op2_mul, op2_fdiv, op2_mod, cm2_lt, cm2_le, cm2_gt, cm2_ge, bi_lenL, bi_lenT, bi_tupL, bi_tupT, bi_lstL, bi_lstT, bi_int, bi_bool, bi_abs, bi_max, bi_min, bi_sum, bi_all, seqOf_l, seqOf_t, bi_sorted, bi_repr, iop_a, iop_s, iop_m, itemsL, itemsT, ty1, ty2, ty3, ty4, ty5, ty6, ty7, ty8, ty9, ty10, isN0, isN1, isN2, isN3, isN4, isN5, decide_eq_true_eq, if_true, Bool.true_or, Bool.or_true, Bool.true_and, Bool.and_true, Bool.false_eq_true, if_false, noL_int, noL_bool, noL_tup, noLs_nil, noLs_cons, pints_map, pbools_map, Option.map_some, Bool.or_self, Bool.and_self, Bool.or_false, Bool.false_or, noLs_ints, ix0, ix1, ix2, frC_bool, frC_tup, frC_lst, biFr_tup, biFr_lst, biFr_int, frN_lst, frN_tup, frN_bool, cut2, slD_t, slD_l, true_and, and_true]
        have e1 : (if r.2.2 < 0 then m else 0 - m) = -r.2.2 * m := by rcases g5 with e | e <;> rw [e] <;> simp
        split
        · rename_i hs
          rw [if_pos hs] at e1
          have em : (pre.map fun p : Rd × Int => (p.2, -p.1.2.2 * p.2)).map ePair ++ [.tuple [.int m, .int m]] = ((pre ++ [(r, m)]).map fun p : Rd × Int => (p.2, -p.1.2.2 * p.2)).map ePair := by simp [ePair, ← e1]
          simp only [em]
          exact ⟨fits_of (by simp), fits_of (by simp; omega), ⟨_, _, _, _, _, _, _, _, _, _, _, _, _, _, _, _, _, _, _, rfl⟩⟩
        · rename_i hs
          rw [if_neg hs] at e1
          have em : (pre.map fun p : Rd × Int => (p.2, -p.1.2.2 * p.2)).map ePair ++ [.tuple [.int m, .int (0 - m)]] = ((pre ++ [(r, m)]).map fun p : Rd × Int => (p.2, -p.1.2.2 * p.2)).map ePair := by simp [ePair, ← e1]
          simp only [wss_nil, wss_one, w_ifs, w_ret, w_retN, w_pass, w_drop, w_sSet, w_sPop, we_var, we_none, we_tru, we_fls, we_int, we_str, we_op, we_neg, we_cmp, we_chain, we_isN, we_notN, we_isT, we_notT, we_not, we_and, we_or, we_ite, we_tup, we_lst, we_ix, we_sl, we_rev, we_bi, we_isi, we_call, we_lc, we_sInt, we_sCnt, wc_no, wc_so, wo_no, wo_so, ws_nil, ws_cons, ws_star, wi_val, wi_rg1, wi_rg2, wi_enum, wi_zip, wi_zips, we_idx, we_rl1, we_rl2, putX_nil, putX_no, wt_turn, O1_some, O2_some, O3_some, O1_ite, asB_b, asI_i, frC_int, frN_int, vals_nil, vals_cons, getV_zero, getV_succ, asgT_n, asgT_t, asgTs_n, asgTs_c, putT_n, putT_t, putTs_n, putTs_c, putAll_n, putAll_c, wipe_n, wipe_c, List.map_cons, List.map_nil, List.set_cons_succ, List.set_cons_zero, Option.bind_some, Option.map_some, Option.map_none, op2_add, op2_addT, op2_addL, op2_sub, op2_mul, op2_fdiv, op2_mod, cm2_lt, cm2_le, cm2_gt, cm2_ge, bi_lenL, bi_lenT, bi_tupL, bi_tupT, bi_lstL, bi_lstT, bi_int, bi_bool, bi_abs, bi_max, bi_min, bi_sum, bi_all, seqOf_l, seqOf_t, bi_sorted, bi_repr, iop_a, iop_s, iop_m, itemsL, itemsT, ty1, ty2, ty3, ty4, ty5, ty6, ty7, ty8, ty9, ty10, isN0, isN1, isN2, isN3, isN4, isN5, decide_eq_true_eq, if_true, Bool.true_or, Bool.or_true, Bool.true_and, Bool.and_true, Bool.false_eq_true, if_false, noL_int, noL_bool, noL_tup, noLs_nil, noLs_cons, pints_map, pbools_map, Option.map_some, Bool.or_self, Bool.and_self, Bool.or_false, Bool.false_or, noLs_ints, ix0, ix1, ix2, frC_bool, frC_tup, frC_lst, biFr_tup, biFr_lst, biFr_int, frN_lst, frN_tup, frN_bool, cut2, slD_t, slD_l, true_and, and_true, em]
          exact ⟨fits_of (by simp), fits_of (by simp; omega), ⟨_, _, _, _, _, _, _, _, _, _, _, _, _, _, _, _, _, _, _, rfl⟩⟩
      · intro st h
        exact h
    clear m3 m4 m5 m6 m7 x2 x9 x10 x11 x12 x13 x14 x15 x16 x17 x18 x19 x20 x21
    rintro ⟨env, s⟩ ⟨m3, m4, m5, m6, m7, x2, x9, x10, x11, x12, x13, x14, x15, x16, x17, x18, x19, x20, x21, he⟩
    simp only at he
    subst he
    have hms' : ∀ x ∈ ms, x.natAbs < 100 := fun x hx => sg_small (hms x hx)
    have he1 : ∀ p ∈ ends rs ms, p.1.natAbs < 100 ∧ p.2.natAbs < 100 := fun p hp => by
      simp only [ends, List.mem_map] at hp
      obtain ⟨q, hq, rfl⟩ := hp
      obtain ⟨g1, g2, g3, g4, g5⟩ := f4 q.1 (List.of_mem_zip hq).1
      have := hms q.2 (List.of_mem_zip hq).2
      unfold sg at this
      rcases g5 with e | e <;> rcases this with e2 | e2 <;> simp only [e, e2] <;> decide
    have el : (ends rs ms).length ≤ 8 := by simp [ends]; omega
    have ne : Nice 2 2000 (.tuple ((ends rs ms).map ePair)) := (nice_tup (dp := 1) (b := 60) fun x hx => by
      obtain ⟨p, hp, rfl⟩ := List.mem_map.mp hx
      obtain ⟨h1, h2⟩ := he1 p hp
      exact (nice_ints (l := [p.1, p.2]) fun x hx => by
        simp only [List.mem_cons, List.not_mem_nil, or_false] at hx
        rcases hx with rfl | rfl <;> omega).mono (by omega) (by simp)).mono (by omega) (by rw [List.length_map]; omega)
    refine wss_seq (fun st => ∃ (m3 m4 m5 m6 m7 : Bool) (x2 x9 x10 x11 x12 x13 x14 x15 x16 x17 x18 x19 x20 x21 : Option (D × Bool)), st.env = [none, none, x2, some (eF n rs, m3), some (.int n, m4), some (.str (eF n rs).shown, m5), some (.int mm, m6), some (eRow ms, m7), some (.list ((ends rs ms).map ePair), true), x9, x10, x11, x12, x13, x14, x15, x16, x17, x18, x19, x20, x21, none, none, none]) ?_ ?_
    · simp only [wss_nil, wss_one, w_ifs, w_ret, w_retN, w_pass, w_drop, w_sSet, w_sPop, we_var, we_none, we_tru, we_fls, we_int, we_str, we_op, we_neg, we_cmp, we_chain, we_isN, we_notN, we_isT, we_notT, we_not, we_and, we_or, we_ite, we_tup, we_lst, we_ix, we_sl, we_rev, we_bi, we_isi, we_call, we_lc, we_sInt, we_sCnt, wc_no, wc_so, wo_no, wo_so, ws_nil, ws_cons, ws_star, wi_val, wi_rg1, wi_rg2, wi_enum, wi_zip, wi_zips, we_idx, we_rl1, we_rl2, putX_nil, putX_no, wt_turn, O1_some, O2_some, O3_some, O1_ite, asB_b, asI_i, frC_int, frN_int, vals_nil, vals_cons, getV_zero, getV_succ, asgT_n, asgT_t, asgTs_n, asgTs_c, putT_n, putT_t, putTs_n, putTs_c, putAll_n, putAll_c, wipe_n, wipe_c, List.map_cons, List.map_nil, List.set_cons_succ, List.set_cons_zero, Option.bind_some, Option.map_some, Option.map_none, op2_add, op2_addT, op2_addL, op2_sub, op2_mul, op2_fdiv, op2_mod, cm2_lt, cm2_le, cm2_gt, cm2_ge, bi_lenL, bi_lenT, bi_tupL, bi_tupT, bi_lstL, bi_lstT, bi_int, bi_bool, bi_abs, bi_max, bi_min, bi_sum, bi_all, seqOf_l, seqOf_t, bi_sorted, bi_repr, iop_a, iop_s, iop_m, itemsL, itemsT, ty1, ty2, ty3, ty4, ty5, ty6, ty7, ty8, ty9, ty10, isN0, isN1, isN2, isN3, isN4, isN5, decide_eq_true_eq, if_true, Bool.true_or, Bool.or_true, Bool.true_and, Bool.and_true, Bool.false_eq_true, if_false, noL_int, noL_bool, noL_tup, noLs_nil, noLs_cons, pints_map, pbools_map, Option.map_some, Bool.or_self, Bool.and_self, Bool.or_false, Bool.false_or, noLs_ints, ix0, ix1, ix2, frC_bool, frC_tup, frC_lst, biFr_tup, biFr_lst, biFr_int, frN_lst, frN_tup, frN_bool, cut2, slD_t, slD_l, true_and, and_true]
      refine arrowEnds hF hml hms ?_
      refine ⟨ne.repr (by omega) (by omega), ne.repr (by omega) (by omega), ?_⟩
      rw [cm2_neS ne.pl]
      simp only [wss_nil, wss_one, w_ifs, w_ret, w_retN, w_pass, w_drop, w_sSet, w_sPop, we_var, we_none, we_tru, we_fls, we_int, we_str, we_op, we_neg, we_cmp, we_chain, we_isN, we_notN, we_isT, we_notT, we_not, we_and, we_or, we_ite, we_tup, we_lst, we_ix, we_sl, we_rev, we_bi, we_isi, we_call, we_lc, we_sInt, we_sCnt, wc_no, wc_so, wo_no, wo_so, ws_nil, ws_cons, ws_star, wi_val, wi_rg1, wi_rg2, wi_enum, wi_zip, wi_zips, we_idx, we_rl1, we_rl2, putX_nil, putX_no, wt_turn, O1_some, O2_some, O3_some, O1_ite, asB_b, asI_i, frC_int, frN_int, vals_nil, vals_cons, getV_zero, getV_succ, asgT_n, asgT_t, asgTs_n, asgTs_c, putT_n, putT_t, putTs_n, putTs_c, putAll_n, putAll_c, wipe_n, wipe_c, List.map_cons, List.map_nil, List.set_cons_succ, List.set_cons_zero, Option.bind_some, Option.map_some, Option.map_none, op2_add, op2_addT, op2_addL, op2_sub, op2_mul, op2_fdiv, op2_mod, cm2_lt, cm2_le, cm2_gt, cm2_ge, bi_lenL, bi_lenT, bi_tupL, bi_tupT, bi_lstL, bi_lstT, bi_int, bi_bool, bi_abs, bi_max, bi_min, bi_sum, bi_all, seqOf_l, seqOf_t, bi_sorted, bi_repr, iop_a, iop_s, iop_m, itemsL, itemsT, ty1, ty2, ty3, ty4, ty5, ty6, ty7, ty8, ty9, ty10, isN0, isN1, isN2, isN3, isN4, isN5, decide_eq_true_eq, if_true, Bool.true_or, Bool.or_true, Bool.true_and, Bool.and_true, Bool.false_eq_true, if_false, noL_int, noL_bool, noL_tup, noLs_nil, noLs_cons, pints_map, pbools_map, Option.map_some, Bool.or_self, Bool.and_self, Bool.or_false, Bool.false_or, noLs_ints, ix0, ix1, ix2, frC_bool, frC_tup, frC_lst, biFr_tup, biFr_lst, biFr_int, frN_lst, frN_tup, frN_bool, cut2, slD_t, slD_l, true_and, and_true]
      exact ⟨_, _, _, _, _, _, _, _, _, _, _, _, _, _, _, _, _, _, _, rfl⟩
    clear m3 m4 m5 m6 m7 x2 x9 x10 x11 x12 x13 x14 x15 x16 x17 x18 x19 x20 x21
    rintro ⟨env, s⟩ ⟨m3, m4, m5, m6, m7, x2, x9, x10, x11, x12, x13, x14, x15, x16, x17, x18, x19, x20, x21, he⟩
    simp only at he
    subst he
    refine wss_seq (fun st => ∃ (hs : List Int) (m3 m4 m5 m6 m7 m13 : Bool) (x2 x9 x10 x11 x12 x14 x15 x16 x17 x18 x19 x20 x21 : Option (D × Bool)), hs.length = n.toNat ∧ (∀ x ∈ hs, x.natAbs < 100) ∧ st.env = [none, none, x2, some (eF n rs, m3), some (.int n, m4), some (.str (eF n rs).shown, m5), some (.int mm, m6), some (eRow ms, m7), some (.list ((ends rs ms).map ePair), true), x9, x10, x11, x12, some (eRow hs, m13), x14, x15, x16, x17, x18, x19, x20, x21, none, none, none]) (w_asg ?_) ?_
    · simp only [wss_nil, wss_one, w_ifs, w_ret, w_retN, w_pass, w_drop, w_sSet, w_sPop, we_var, we_none, we_tru, we_fls, we_int, we_str, we_op, we_neg, we_cmp, we_chain, we_isN, we_notN, we_isT, we_notT, we_not, we_and, we_or, we_ite, we_tup, we_lst, we_ix, we_sl, we_rev, we_bi, we_isi, we_call, we_lc, we_sInt, we_sCnt, wc_no, wc_so, wo_no, wo_so, ws_nil, ws_cons, ws_star, wi_val, wi_rg1, wi_rg2, wi_enum, wi_zip, wi_zips, we_idx, we_rl1, we_rl2, putX_nil, putX_no, wt_turn, O1_some, O2_some, O3_some, O1_ite, asB_b, asI_i, frC_int, frN_int, vals_nil, vals_cons, getV_zero, getV_succ, asgT_n, asgT_t, asgTs_n, asgTs_c, putT_n, putT_t, putTs_n, putTs_c, putAll_n, putAll_c, wipe_n, wipe_c, List.map_cons, List.map_nil, List.set_cons_succ, List.set_cons_zero, Option.bind_some, Option.map_some, Option.map_none, op2_add, op2_addT, op2_addL, op2_sub, op2_mul, op2_fdiv, op2_mod, cm2_lt, cm2_le, cm2_gt, cm2_ge, bi_lenL, bi_lenT, bi_tupL, bi_tupT, bi_lstL, bi_lstT, bi_int, bi_bool, bi_abs, bi_max, bi_min, bi_sum, bi_all, seqOf_l, seqOf_t, bi_sorted, bi_repr, iop_a, iop_s, iop_m, itemsL, itemsT, ty1, ty2, ty3, ty4, ty5, ty6, ty7, ty8, ty9, ty10, isN0, isN1, isN2, isN3, isN4, isN5, decide_eq_true_eq, if_true, Bool.true_or, Bool.or_true, Bool.true_and, Bool.and_true, Bool.false_eq_true, if_false, noL_int, noL_bool, noL_tup, noLs_nil, noLs_cons, pints_map, pbools_map, Option.map_some, Bool.or_self, Bool.and_self, Bool.or_false, Bool.false_or, noLs_ints, ix0, ix1, ix2, frC_bool, frC_tup, frC_lst, biFr_tup, biFr_lst, biFr_int, frN_lst, frN_tup, frN_bool, cut2, slD_t, slD_l, true_and, and_true]
      refine ⟨okRg_of (by omega) (by omega) (by omega) (by omega), fits_of (by simp only [range_len]; omega), ?_⟩
      refine o3_rangeR (fun _ d => ∃ x : Int, x.natAbs < 100 ∧ d = .int x) (fun i hi s => ?_) fun xs s' hx => ?_
      · simp only [wss_nil, wss_one, w_ifs, w_ret, w_retN, w_pass, w_drop, w_sSet, w_sPop, we_var, we_none, we_tru, we_fls, we_int, we_str, we_op, we_neg, we_cmp, we_chain, we_isN, we_notN, we_isT, we_notT, we_not, we_and, we_or, we_ite, we_tup, we_lst, we_ix, we_sl, we_rev, we_bi, we_isi, we_call, we_lc, we_sInt, we_sCnt, wc_no, wc_so, wo_no, wo_so, ws_nil, ws_cons, ws_star, wi_val, wi_rg1, wi_rg2, wi_enum, wi_zip, wi_zips, we_idx, we_rl1, we_rl2, putX_nil, putX_no, wt_turn, O1_some, O2_some, O3_some, O1_ite, asB_b, asI_i, frC_int, frN_int, vals_nil, vals_cons, getV_zero, getV_succ, asgT_n, asgT_t, asgTs_n, asgTs_c, putT_n, putT_t, putTs_n, putTs_c, putAll_n, putAll_c, wipe_n, wipe_c, List.map_cons, List.map_nil, List.set_cons_succ, List.set_cons_zero, Option.bind_some, Option.map_some, Option.map_none, op2_add, op2_addT, op2_addL, op2_sub, op2_mul, op2_fdiv, op2_mod, cm2_lt, cm2_le, cm2_gt, cm2_ge, bi_lenL, bi_lenT, bi_tupL, bi_tupT, bi_lstL, bi_lstT, bi_int, bi_bool, bi_abs, bi_max, bi_min, bi_sum, bi_all, seqOf_l, seqOf_t, bi_sorted, bi_repr, iop_a, iop_s, iop_m, itemsL, itemsT, ty1, ty2, ty3, ty4, ty5, ty6, ty7, ty8, ty9, ty10, isN0, isN1, isN2, isN3, isN4, isN5, decide_eq_true_eq, if_true, Bool.true_or, Bool.or_true, Bool.true_and, Bool.and_true, Bool.false_eq_true, if_false, noL_int, noL_bool, noL_tup, noLs_nil, noLs_cons, pints_map, pbools_map, Option.map_some, Bool.or_self, Bool.and_self, Bool.or_false, Bool.false_or, noLs_ints, ix0, ix1, ix2, frC_bool, frC_tup, frC_lst, biFr_tup, biFr_lst, biFr_int, frN_lst, frN_tup, frN_bool, cut2, slD_t, slD_l, true_and, and_true]
        refine pick_ok hPick hW (by decide) fun r s' r0 r1 r2 => ?_
        have := r1 (by decide)
        simp only [wss_nil, wss_one, w_ifs, w_ret, w_retN, w_pass, w_drop, w_sSet, w_sPop, we_var, we_none, we_tru, we_fls, we_int, we_str, we_op, we_neg, we_cmp, we_chain, we_isN, we_notN, we_isT, we_notT, we_not, we_and, we_or, we_ite, we_tup, we_lst, we_ix, we_sl, we_rev, we_bi, we_isi, we_call, we_lc, we_sInt, we_sCnt, wc_no, wc_so, wo_no, wo_so, ws_nil, ws_cons, ws_star, wi_val, wi_rg1, wi_rg2, wi_enum, wi_zip, wi_zips, we_idx, we_rl1, we_rl2, putX_nil, putX_no, wt_turn, O1_some, O2_some, O3_some, O1_ite, asB_b, asI_i, frC_int, frN_int, vals_nil, vals_cons, getV_zero, getV_succ, asgT_n, asgT_t, asgTs_n, asgTs_c, putT_n, putT_t, putTs_n, putTs_c, putAll_n, putAll_c, wipe_n, wipe_c, List.map_cons, List.map_nil, List.set_cons_succ, List.set_cons_zero, Option.bind_some, Option.map_some, Option.map_none, op2_add, op2_addT, op2_addL, op2_sub, op2_mul, op2_fdiv, op2_mod, cm2_lt, cm2_le, cm2_gt, cm2_ge, bi_lenL, bi_lenT, bi_tupL, bi_tupT, bi_lstL, bi_lstT, bi_int, bi_bool, bi_abs, bi_max, bi_min, bi_sum, bi_all, seqOf_l, seqOf_t, bi_sorted, bi_repr, iop_a, iop_s, iop_m, itemsL, itemsT, ty1, ty2, ty3, ty4, ty5, ty6, ty7, ty8, ty9, ty10, isN0, isN1, isN2, isN3, isN4, isN5, decide_eq_true_eq, if_true, Bool.true_or, Bool.or_true, Bool.true_and, Bool.and_true, Bool.false_eq_true, if_false, noL_int, noL_bool, noL_tup, noLs_nil, noLs_cons, pints_map, pbools_map, Option.map_some, Bool.or_self, Bool.and_self, Bool.or_false, Bool.false_or, noLs_ints, ix0, ix1, ix2, frC_bool, frC_tup, frC_lst, biFr_tup, biFr_lst, biFr_int, frN_lst, frN_tup, frN_bool, cut2, slD_t, slD_l, true_and, and_true]
        exact ⟨_, by omega, rfl⟩
      · obtain ⟨hs, rfl, e2, e3⟩ := all2_ints hx
        simp only [wss_nil, wss_one, w_ifs, w_ret, w_retN, w_pass, w_drop, w_sSet, w_sPop, we_var, we_none, we_tru, we_fls, we_int, we_str, we_op, we_neg, we_cmp, we_chain, we_isN, we_notN, we_isT, we_notT, we_not, we_and, we_or, we_ite, we_tup, we_lst, we_ix, we_sl, we_rev, we_bi, we_isi, we_call, we_lc, we_sInt, we_sCnt, wc_no, wc_so, wo_no, wo_so, ws_nil, ws_cons, ws_star, wi_val, wi_rg1, wi_rg2, wi_enum, wi_zip, wi_zips, we_idx, we_rl1, we_rl2, putX_nil, putX_no, wt_turn, O1_some, O2_some, O3_some, O1_ite, asB_b, asI_i, frC_int, frN_int, vals_nil, vals_cons, getV_zero, getV_succ, asgT_n, asgT_t, asgTs_n, asgTs_c, putT_n, putT_t, putTs_n, putTs_c, putAll_n, putAll_c, wipe_n, wipe_c, List.map_cons, List.map_nil, List.set_cons_succ, List.set_cons_zero, Option.bind_some, Option.map_some, Option.map_none, op2_add, op2_addT, op2_addL, op2_sub, op2_mul, op2_fdiv, op2_mod, cm2_lt, cm2_le, cm2_gt, cm2_ge, bi_lenL, bi_lenT, bi_tupL, bi_tupT, bi_lstL, bi_lstT, bi_int, bi_bool, bi_abs, bi_max, bi_min, bi_sum, bi_all, seqOf_l, seqOf_t, bi_sorted, bi_repr, iop_a, iop_s, iop_m, itemsL, itemsT, ty1, ty2, ty3, ty4, ty5, ty6, ty7, ty8, ty9, ty10, isN0, isN1, isN2, isN3, isN4, isN5, decide_eq_true_eq, if_true, Bool.true_or, Bool.or_true, Bool.true_and, Bool.and_true, Bool.false_eq_true, if_false, noL_int, noL_bool, noL_tup, noLs_nil, noLs_cons, pints_map, pbools_map, Option.map_some, Bool.or_self, Bool.and_self, Bool.or_false, Bool.false_or, noLs_ints, ix0, ix1, ix2, frC_bool, frC_tup, frC_lst, biFr_tup, biFr_lst, biFr_int, frN_lst, frN_tup, frN_bool, cut2, slD_t, slD_l, true_and, and_true]
        exact ⟨hs, _, _, _, _, _, _, _, _, _, _, _, _, _, _, _, _, _, _, _, by simp at e2; omega, e3, rfl⟩
    clear m3 m4 m5 m6 m7 x2 x9 x10 x11 x12 x13 x14 x15 x16 x17 x18 x19 x20 x21
    rintro ⟨env, s⟩ ⟨hs, m3, m4, m5, m6, m7, m13, x2, x9, x10, x11, x12, x14, x15, x16, x17, x18, x19, x20, x21, hhl, hhs, he⟩
    simp only at he
    subst he
    have hsm := rd_small f4 hhl hhs
    have hle : (rs.map (rd hs)).length ≤ 100 := by simp; omega
    have nrd := nice_r hsm hle
    have narr : Nice 1 3000 (arr (rs.map (rd hs))) := by
      unfold arr
      split
      · exact ⟨by simp [PV.plain], by simp [PyData.depth], by simp [PV.sz]⟩
      · refine nice_r (fun x hx => ?_) (by simpa using hle)
        obtain ⟨y, _, rfl⟩ := List.mem_map.mp hx
        unfold sgn
        split <;> decide
    refine wss_seq (fun st => ∃ (m3 m4 m5 m6 m7 m13 : Bool) (x2 x9 x10 x11 x12 x14 x15 x16 x17 x18 x19 x20 x21 : Option (D × Bool)), st.env = [none, none, x2, some (eF n rs, m3), some (.int n, m4), some (.str (eF n rs).shown, m5), some (.int mm, m6), some (eRow ms, m7), some (.list ((ends rs ms).map ePair), true), x9, x10, x11, x12, some (eRow hs, m13), x14, x15, x16, x17, x18, x19, x20, x21, none, none, none]) ?_ ?_
    · simp only [wss_nil, wss_one, w_ifs, w_ret, w_retN, w_pass, w_drop, w_sSet, w_sPop, we_var, we_none, we_tru, we_fls, we_int, we_str, we_op, we_neg, we_cmp, we_chain, we_isN, we_notN, we_isT, we_notT, we_not, we_and, we_or, we_ite, we_tup, we_lst, we_ix, we_sl, we_rev, we_bi, we_isi, we_call, we_lc, we_sInt, we_sCnt, wc_no, wc_so, wo_no, wo_so, ws_nil, ws_cons, ws_star, wi_val, wi_rg1, wi_rg2, wi_enum, wi_zip, wi_zips, we_idx, we_rl1, we_rl2, putX_nil, putX_no, wt_turn, O1_some, O2_some, O3_some, O1_ite, asB_b, asI_i, frC_int, frN_int, vals_nil, vals_cons, getV_zero, getV_succ, asgT_n, asgT_t, asgTs_n, asgTs_c, putT_n, putT_t, putTs_n, putTs_c, putAll_n, putAll_c, wipe_n, wipe_c, List.map_cons, List.map_nil, List.set_cons_succ, List.set_cons_zero, Option.bind_some, Option.map_some, Option.map_none, op2_add, op2_addT, op2_addL, op2_sub, op2_mul, op2_fdiv, op2_mod, cm2_lt, cm2_le, cm2_gt, cm2_ge, bi_lenL, bi_lenT, bi_tupL, bi_tupT, bi_lstL, bi_lstT, bi_int, bi_bool, bi_abs, bi_max, bi_min, bi_sum, bi_all, seqOf_l, seqOf_t, bi_sorted, bi_repr, iop_a, iop_s, iop_m, itemsL, itemsT, ty1, ty2, ty3, ty4, ty5, ty6, ty7, ty8, ty9, ty10, isN0, isN1, isN2, isN3, isN4, isN5, decide_eq_true_eq, if_true, Bool.true_or, Bool.or_true, Bool.true_and, Bool.and_true, Bool.false_eq_true, if_false, noL_int, noL_bool, noL_tup, noLs_nil, noLs_cons, pints_map, pbools_map, Option.map_some, Bool.or_self, Bool.and_self, Bool.or_false, Bool.false_or, noLs_ints, ix0, ix1, ix2, frC_bool, frC_tup, frC_lst, biFr_tup, biFr_lst, biFr_int, frN_lst, frN_tup, frN_bool, cut2, slD_t, slD_l, true_and, and_true]
      refine readings3 hF hhl ?_
      refine ⟨nrd.repr (by omega) (by omega), ?_⟩
      refine readings10 hF hhl ?_
      refine ⟨nrd.repr (by omega) (by omega), ?_⟩
      rw [cm2_neS nrd.pl]
      simp only [wss_nil, wss_one, w_ifs, w_ret, w_retN, w_pass, w_drop, w_sSet, w_sPop, we_var, we_none, we_tru, we_fls, we_int, we_str, we_op, we_neg, we_cmp, we_chain, we_isN, we_notN, we_isT, we_notT, we_not, we_and, we_or, we_ite, we_tup, we_lst, we_ix, we_sl, we_rev, we_bi, we_isi, we_call, we_lc, we_sInt, we_sCnt, wc_no, wc_so, wo_no, wo_so, ws_nil, ws_cons, ws_star, wi_val, wi_rg1, wi_rg2, wi_enum, wi_zip, wi_zips, we_idx, we_rl1, we_rl2, putX_nil, putX_no, wt_turn, O1_some, O2_some, O3_some, O1_ite, asB_b, asI_i, frC_int, frN_int, vals_nil, vals_cons, getV_zero, getV_succ, asgT_n, asgT_t, asgTs_n, asgTs_c, putT_n, putT_t, putTs_n, putTs_c, putAll_n, putAll_c, wipe_n, wipe_c, List.map_cons, List.map_nil, List.set_cons_succ, List.set_cons_zero, Option.bind_some, Option.map_some, Option.map_none, op2_add, op2_addT, op2_addL, op2_sub, op2_mul, op2_fdiv, op2_mod, cm2_lt, cm2_le, cm2_gt, cm2_ge, bi_lenL, bi_lenT, bi_tupL, bi_tupT, bi_lstL, bi_lstT, bi_int, bi_bool, bi_abs, bi_max, bi_min, bi_sum, bi_all, seqOf_l, seqOf_t, bi_sorted, bi_repr, iop_a, iop_s, iop_m, itemsL, itemsT, ty1, ty2, ty3, ty4, ty5, ty6, ty7, ty8, ty9, ty10, isN0, isN1, isN2, isN3, isN4, isN5, decide_eq_true_eq, if_true, Bool.true_or, Bool.or_true, Bool.true_and, Bool.and_true, Bool.false_eq_true, if_false, noL_int, noL_bool, noL_tup, noLs_nil, noLs_cons, pints_map, pbools_map, Option.map_some, Bool.or_self, Bool.and_self, Bool.or_false, Bool.false_or, noLs_ints, ix0, ix1, ix2, frC_bool, frC_tup, frC_lst, biFr_tup, biFr_lst, biFr_int, frN_lst, frN_tup, frN_bool, cut2, slD_t, slD_l, true_and, and_true]
      exact ⟨_, _, _, _, _, _, _, _, _, _, _, _, _, _, _, _, _, _, _, rfl⟩
    clear m3 m4 m5 m6 m7 m13 x2 x9 x10 x11 x12 x14 x15 x16 x17 x18 x19 x20 x21
    rintro ⟨env, s⟩ ⟨m3, m4, m5, m6, m7, m13, x2, x9, x10, x11, x12, x14, x15, x16, x17, x18, x19, x20, x21, he⟩
    simp only at he
    subst he
    refine wss_seq (fun st => ∃ (m3 m4 m5 m6 m7 m13 : Bool) (x2 x9 x10 x11 x12 x14 x15 x16 x17 x18 x19 x20 x21 : Option (D × Bool)), st.env = [none, none, x2, some (eF n rs, m3), some (.int n, m4), some (.str (eF n rs).shown, m5), some (.int mm, m6), some (eRow ms, m7), some (.list ((ends rs ms).map ePair), true), x9, x10, x11, x12, some (eRow hs, m13), x14, x15, x16, x17, x18, x19, x20, x21, none, none, none]) ?_ ?_
    · simp only [wss_nil, wss_one, w_ifs, w_ret, w_retN, w_pass, w_drop, w_sSet, w_sPop, we_var, we_none, we_tru, we_fls, we_int, we_str, we_op, we_neg, we_cmp, we_chain, we_isN, we_notN, we_isT, we_notT, we_not, we_and, we_or, we_ite, we_tup, we_lst, we_ix, we_sl, we_rev, we_bi, we_isi, we_call, we_lc, we_sInt, we_sCnt, wc_no, wc_so, wo_no, wo_so, ws_nil, ws_cons, ws_star, wi_val, wi_rg1, wi_rg2, wi_enum, wi_zip, wi_zips, we_idx, we_rl1, we_rl2, putX_nil, putX_no, wt_turn, O1_some, O2_some, O3_some, O1_ite, asB_b, asI_i, frC_int, frN_int, vals_nil, vals_cons, getV_zero, getV_succ, asgT_n, asgT_t, asgTs_n, asgTs_c, putT_n, putT_t, putTs_n, putTs_c, putAll_n, putAll_c, wipe_n, wipe_c, List.map_cons, List.map_nil, List.set_cons_succ, List.set_cons_zero, Option.bind_some, Option.map_some, Option.map_none, op2_add, op2_addT, op2_addL, op2_sub, op2_mul, op2_fdiv, op2_mod, cm2_lt, cm2_le, cm2_gt, cm2_ge, bi_lenL, bi_lenT, bi_tupL, bi_tupT, bi_lstL, bi_lstT, bi_int, bi_bool, bi_abs, bi_max, bi_min, bi_sum, bi_all, seqOf_l, seqOf_t, bi_sorted, bi_repr, iop_a, iop_s, iop_m, itemsL, itemsT, ty1, ty2, ty3, ty4, ty5, ty6, ty7, ty8, ty9, ty10, isN0, isN1, isN2, isN3, isN4, isN5, decide_eq_true_eq, if_true, Bool.true_or, Bool.or_true, Bool.true_and, Bool.and_true, Bool.false_eq_true, if_false, noL_int, noL_bool, noL_tup, noLs_nil, noLs_cons, pints_map, pbools_map, Option.map_some, Bool.or_self, Bool.and_self, Bool.or_false, Bool.false_or, noLs_ints, ix0, ix1, ix2, frC_bool, frC_tup, frC_lst, biFr_tup, biFr_lst, biFr_int, frN_lst, frN_tup, frN_bool, cut2, slD_t, slD_l, true_and, and_true]
      refine arrows4 hF hhl hhs ?_
      refine ⟨narr.repr (by omega) (by omega), ?_⟩
      refine arrows11 hF hhl hhs ?_
      refine ⟨narr.repr (by omega) (by omega), ?_⟩
      rw [cm2_neS narr.pl]
      simp only [wss_nil, wss_one, w_ifs, w_ret, w_retN, w_pass, w_drop, w_sSet, w_sPop, we_var, we_none, we_tru, we_fls, we_int, we_str, we_op, we_neg, we_cmp, we_chain, we_isN, we_notN, we_isT, we_notT, we_not, we_and, we_or, we_ite, we_tup, we_lst, we_ix, we_sl, we_rev, we_bi, we_isi, we_call, we_lc, we_sInt, we_sCnt, wc_no, wc_so, wo_no, wo_so, ws_nil, ws_cons, ws_star, wi_val, wi_rg1, wi_rg2, wi_enum, wi_zip, wi_zips, we_idx, we_rl1, we_rl2, putX_nil, putX_no, wt_turn, O1_some, O2_some, O3_some, O1_ite, asB_b, asI_i, frC_int, frN_int, vals_nil, vals_cons, getV_zero, getV_succ, asgT_n, asgT_t, asgTs_n, asgTs_c, putT_n, putT_t, putTs_n, putTs_c, putAll_n, putAll_c, wipe_n, wipe_c, List.map_cons, List.map_nil, List.set_cons_succ, List.set_cons_zero, Option.bind_some, Option.map_some, Option.map_none, op2_add, op2_addT, op2_addL, op2_sub, op2_mul, op2_fdiv, op2_mod, cm2_lt, cm2_le, cm2_gt, cm2_ge, bi_lenL, bi_lenT, bi_tupL, bi_tupT, bi_lstL, bi_lstT, bi_int, bi_bool, bi_abs, bi_max, bi_min, bi_sum, bi_all, seqOf_l, seqOf_t, bi_sorted, bi_repr, iop_a, iop_s, iop_m, itemsL, itemsT, ty1, ty2, ty3, ty4, ty5, ty6, ty7, ty8, ty9, ty10, isN0, isN1, isN2, isN3, isN4, isN5, decide_eq_true_eq, if_true, Bool.true_or, Bool.or_true, Bool.true_and, Bool.and_true, Bool.false_eq_true, if_false, noL_int, noL_bool, noL_tup, noLs_nil, noLs_cons, pints_map, pbools_map, Option.map_some, Bool.or_self, Bool.and_self, Bool.or_false, Bool.false_or, noLs_ints, ix0, ix1, ix2, frC_bool, frC_tup, frC_lst, biFr_tup, biFr_lst, biFr_int, frN_lst, frN_tup, frN_bool, cut2, slD_t, slD_l, true_and, and_true]
      exact ⟨_, _, _, _, _, _, _, _, _, _, _, _, _, _, _, _, _, _, _, rfl⟩
    clear m3 m4 m5 m6 m7 m13 x2 x9 x10 x11 x12 x14 x15 x16 x17 x18 x19 x20 x21
    rintro ⟨env, s⟩ ⟨m3, m4, m5, m6, m7, m13, x2, x9, x10, x11, x12, x14, x15, x16, x17, x18, x19, x20, x21, he⟩
    simp only at he
    subst he
    refine wss_seq (fun st => ∃ (row : List Int) (m3 m4 m5 m6 m7 m13 m14 : Bool) (x2 x9 x10 x11 x12 x15 x16 x17 x18 x19 x20 x21 : Option (D × Bool)), row.length = rs.length ∧ (∀ x ∈ row, x.natAbs < 100) ∧ st.env = [none, none, x2, some (eF n rs, m3), some (.int n, m4), some (.str (eF n rs).shown, m5), some (.int mm, m6), some (eRow ms, m7), some (.list ((ends rs ms).map ePair), true), x9, x10, x11, x12, some (eRow hs, m13), some (eRow row, m14), x15, x16, x17, x18, x19, x20, x21, none, none, none]) (w_asg ?_) ?_
    · simp only [wss_nil, wss_one, w_ifs, w_ret, w_retN, w_pass, w_drop, w_sSet, w_sPop, we_var, we_none, we_tru, we_fls, we_int, we_str, we_op, we_neg, we_cmp, we_chain, we_isN, we_notN, we_isT, we_notT, we_not, we_and, we_or, we_ite, we_tup, we_lst, we_ix, we_sl, we_rev, we_bi, we_isi, we_call, we_lc, we_sInt, we_sCnt, wc_no, wc_so, wo_no, wo_so, ws_nil, ws_cons, ws_star, wi_val, wi_rg1, wi_rg2, wi_enum, wi_zip, wi_zips, we_idx, we_rl1, we_rl2, putX_nil, putX_no, wt_turn, O1_some, O2_some, O3_some, O1_ite, asB_b, asI_i, frC_int, frN_int, vals_nil, vals_cons, getV_zero, getV_succ, asgT_n, asgT_t, asgTs_n, asgTs_c, putT_n, putT_t, putTs_n, putTs_c, putAll_n, putAll_c, wipe_n, wipe_c, List.map_cons, List.map_nil, List.set_cons_succ, List.set_cons_zero, Option.bind_some, Option.map_some, Option.map_none, op2_add, op2_addT, op2_addL, op2_sub, op2_mul, op2_fdiv, op2_mod, cm2_lt, cm2_le, cm2_gt, cm2_ge, bi_lenL, bi_lenT, bi_tupL, bi_tupT, bi_lstL, bi_lstT, bi_int, bi_bool, bi_abs, bi_max, bi_min, bi_sum, bi_all, seqOf_l, seqOf_t, bi_sorted, bi_repr, iop_a, iop_s, iop_m, itemsL, itemsT, ty1, ty2, ty3, ty4, ty5, ty6, ty7, ty8, ty9, ty10, isN0, isN1, isN2, isN3, isN4, isN5, decide_eq_true_eq, if_true, Bool.true_or, Bool.or_true, Bool.true_and, Bool.and_true, Bool.false_eq_true, if_false, noL_int, noL_bool, noL_tup, noLs_nil, noLs_cons, pints_map, pbools_map, Option.map_some, Bool.or_self, Bool.and_self, Bool.or_false, Bool.false_or, noLs_ints, ix0, ix1, ix2, frC_bool, frC_tup, frC_lst, biFr_tup, biFr_lst, biFr_int, frN_lst, frN_tup, frN_bool, cut2, slD_t, slD_l, true_and, and_true]
      refine ⟨okRg_of (by omega) (by omega) (by omega) (by omega), fits_of (by simp only [range_len]; omega), ?_⟩
      refine o3_rangeR (fun _ d => ∃ x : Int, x.natAbs < 100 ∧ d = .int x) (fun i hi s => ?_) fun xs s' hx => ?_
      · simp only [wss_nil, wss_one, w_ifs, w_ret, w_retN, w_pass, w_drop, w_sSet, w_sPop, we_var, we_none, we_tru, we_fls, we_int, we_str, we_op, we_neg, we_cmp, we_chain, we_isN, we_notN, we_isT, we_notT, we_not, we_and, we_or, we_ite, we_tup, we_lst, we_ix, we_sl, we_rev, we_bi, we_isi, we_call, we_lc, we_sInt, we_sCnt, wc_no, wc_so, wo_no, wo_so, ws_nil, ws_cons, ws_star, wi_val, wi_rg1, wi_rg2, wi_enum, wi_zip, wi_zips, we_idx, we_rl1, we_rl2, putX_nil, putX_no, wt_turn, O1_some, O2_some, O3_some, O1_ite, asB_b, asI_i, frC_int, frN_int, vals_nil, vals_cons, getV_zero, getV_succ, asgT_n, asgT_t, asgTs_n, asgTs_c, putT_n, putT_t, putTs_n, putTs_c, putAll_n, putAll_c, wipe_n, wipe_c, List.map_cons, List.map_nil, List.set_cons_succ, List.set_cons_zero, Option.bind_some, Option.map_some, Option.map_none, op2_add, op2_addT, op2_addL, op2_sub, op2_mul, op2_fdiv, op2_mod, cm2_lt, cm2_le, cm2_gt, cm2_ge, bi_lenL, bi_lenT, bi_tupL, bi_tupT, bi_lstL, bi_lstT, bi_int, bi_bool, bi_abs, bi_max, bi_min, bi_sum, bi_all, seqOf_l, seqOf_t, bi_sorted, bi_repr, iop_a, iop_s, iop_m, itemsL, itemsT, ty1, ty2, ty3, ty4, ty5, ty6, ty7, ty8, ty9, ty10, isN0, isN1, isN2, isN3, isN4, isN5, decide_eq_true_eq, if_true, Bool.true_or, Bool.or_true, Bool.true_and, Bool.and_true, Bool.false_eq_true, if_false, noL_int, noL_bool, noL_tup, noLs_nil, noLs_cons, pints_map, pbools_map, Option.map_some, Bool.or_self, Bool.and_self, Bool.or_false, Bool.false_or, noLs_ints, ix0, ix1, ix2, frC_bool, frC_tup, frC_lst, biFr_tup, biFr_lst, biFr_int, frN_lst, frN_tup, frN_bool, cut2, slD_t, slD_l, true_and, and_true]
        refine pick_ok hPick hW (by decide) fun r s' r0 r1 r2 => ?_
        have := r1 (by decide)
        simp only [wss_nil, wss_one, w_ifs, w_ret, w_retN, w_pass, w_drop, w_sSet, w_sPop, we_var, we_none, we_tru, we_fls, we_int, we_str, we_op, we_neg, we_cmp, we_chain, we_isN, we_notN, we_isT, we_notT, we_not, we_and, we_or, we_ite, we_tup, we_lst, we_ix, we_sl, we_rev, we_bi, we_isi, we_call, we_lc, we_sInt, we_sCnt, wc_no, wc_so, wo_no, wo_so, ws_nil, ws_cons, ws_star, wi_val, wi_rg1, wi_rg2, wi_enum, wi_zip, wi_zips, we_idx, we_rl1, we_rl2, putX_nil, putX_no, wt_turn, O1_some, O2_some, O3_some, O1_ite, asB_b, asI_i, frC_int, frN_int, vals_nil, vals_cons, getV_zero, getV_succ, asgT_n, asgT_t, asgTs_n, asgTs_c, putT_n, putT_t, putTs_n, putTs_c, putAll_n, putAll_c, wipe_n, wipe_c, List.map_cons, List.map_nil, List.set_cons_succ, List.set_cons_zero, Option.bind_some, Option.map_some, Option.map_none, op2_add, op2_addT, op2_addL, op2_sub, op2_mul, op2_fdiv, op2_mod, cm2_lt, cm2_le, cm2_gt, cm2_ge, bi_lenL, bi_lenT, bi_tupL, bi_tupT, bi_lstL, bi_lstT, bi_int, bi_bool, bi_abs, bi_max, bi_min, bi_sum, bi_all, seqOf_l, seqOf_t, bi_sorted, bi_repr, iop_a, iop_s, iop_m, itemsL, itemsT, ty1, ty2, ty3, ty4, ty5, ty6, ty7, ty8, ty9, ty10, isN0, isN1, isN2, isN3, isN4, isN5, decide_eq_true_eq, if_true, Bool.true_or, Bool.or_true, Bool.true_and, Bool.and_true, Bool.false_eq_true, if_false, noL_int, noL_bool, noL_tup, noLs_nil, noLs_cons, pints_map, pbools_map, Option.map_some, Bool.or_self, Bool.and_self, Bool.or_false, Bool.false_or, noLs_ints, ix0, ix1, ix2, frC_bool, frC_tup, frC_lst, biFr_tup, biFr_lst, biFr_int, frN_lst, frN_tup, frN_bool, cut2, slD_t, slD_l, true_and, and_true]
        exact ⟨_, by omega, rfl⟩
      · obtain ⟨row, rfl, e2, e3⟩ := all2_ints hx
        simp only [wss_nil, wss_one, w_ifs, w_ret, w_retN, w_pass, w_drop, w_sSet, w_sPop, we_var, we_none, we_tru, we_fls, we_int, we_str, we_op, we_neg, we_cmp, we_chain, we_isN, we_notN, we_isT, we_notT, we_not, we_and, we_or, we_ite, we_tup, we_lst, we_ix, we_sl, we_rev, we_bi, we_isi, we_call, we_lc, we_sInt, we_sCnt, wc_no, wc_so, wo_no, wo_so, ws_nil, ws_cons, ws_star, wi_val, wi_rg1, wi_rg2, wi_enum, wi_zip, wi_zips, we_idx, we_rl1, we_rl2, putX_nil, putX_no, wt_turn, O1_some, O2_some, O3_some, O1_ite, asB_b, asI_i, frC_int, frN_int, vals_nil, vals_cons, getV_zero, getV_succ, asgT_n, asgT_t, asgTs_n, asgTs_c, putT_n, putT_t, putTs_n, putTs_c, putAll_n, putAll_c, wipe_n, wipe_c, List.map_cons, List.map_nil, List.set_cons_succ, List.set_cons_zero, Option.bind_some, Option.map_some, Option.map_none, op2_add, op2_addT, op2_addL, op2_sub, op2_mul, op2_fdiv, op2_mod, cm2_lt, cm2_le, cm2_gt, cm2_ge, bi_lenL, bi_lenT, bi_tupL, bi_tupT, bi_lstL, bi_lstT, bi_int, bi_bool, bi_abs, bi_max, bi_min, bi_sum, bi_all, seqOf_l, seqOf_t, bi_sorted, bi_repr, iop_a, iop_s, iop_m, itemsL, itemsT, ty1, ty2, ty3, ty4, ty5, ty6, ty7, ty8, ty9, ty10, isN0, isN1, isN2, isN3, isN4, isN5, decide_eq_true_eq, if_true, Bool.true_or, Bool.or_true, Bool.true_and, Bool.and_true, Bool.false_eq_true, if_false, noL_int, noL_bool, noL_tup, noLs_nil, noLs_cons, pints_map, pbools_map, Option.map_some, Bool.or_self, Bool.and_self, Bool.or_false, Bool.false_or, noLs_ints, ix0, ix1, ix2, frC_bool, frC_tup, frC_lst, biFr_tup, biFr_lst, biFr_int, frN_lst, frN_tup, frN_bool, cut2, slD_t, slD_l, true_and, and_true]
        exact ⟨row, _, _, _, _, _, _, _, _, _, _, _, _, _, _, _, _, _, _, _, by simp at e2; omega, e3, rfl⟩
    clear m3 m4 m5 m6 m7 m13 x2 x9 x10 x11 x12 x14 x15 x16 x17 x18 x19 x20 x21
    rintro ⟨env, s⟩ ⟨row, m3, m4, m5, m6, m7, m13, m14, x2, x9, x10, x11, x12, x15, x16, x17, x18, x19, x20, x21, hrl, hrs, he⟩
    simp only at he
    subst he
    refine wss_seq (fun st => ∃ (m3 m4 m5 m6 m7 m13 m14 m15 : Bool) (x2 x9 x10 x11 x12 x16 x17 x18 x19 x20 x21 : Option (D × Bool)), st.env = [none, none, x2, some (eF n rs, m3), some (.int n, m4), some (.str (eF n rs).shown, m5), some (.int mm, m6), some (eRow ms, m7), some (.list ((ends rs ms).map ePair), true), x9, x10, x11, x12, some (eRow hs, m13), some (eRow row, m14), some (.list ([row, List.replicate rs.length 0, ms, ms.map fun x => 0 - x].map eRow), m15), x16, x17, x18, x19, x20, x21, none, none, none]) (w_asg ?_) ?_
    · simp only [eRow, wss_nil, wss_one, w_ifs, w_ret, w_retN, w_pass, w_drop, w_sSet, w_sPop, we_var, we_none, we_tru, we_fls, we_int, we_str, we_op, we_neg, we_cmp, we_chain, we_isN, we_notN, we_isT, we_notT, we_not, we_and, we_or, we_ite, we_tup, we_lst, we_ix, we_sl, we_rev, we_bi, we_isi, we_call, we_lc, we_sInt, we_sCnt, wc_no, wc_so, wo_no, wo_so, ws_nil, ws_cons, ws_star, wi_val, wi_rg1, wi_rg2, wi_enum, wi_zip, wi_zips, we_idx, we_rl1, we_rl2, putX_nil, putX_no, wt_turn, O1_some, O2_some, O3_some, O1_ite, asB_b, asI_i, frC_int, frN_int, vals_nil, vals_cons, getV_zero, getV_succ, asgT_n, asgT_t, asgTs_n, asgTs_c, putT_n, putT_t, putTs_n, putTs_c, putAll_n, putAll_c, wipe_n, wipe_c, List.map_cons, List.map_nil, List.set_cons_succ, List.set_cons_zero, Option.bind_some, Option.map_some, Option.map_none, op2_add, op2_addT, op2_addL, op2_sub, op2_mul, op2_fdiv, op2_mod, cm2_lt, cm2_le, cm2_gt, cm2_ge, bi_lenL, bi_lenT, bi_tupL, bi_tupT, bi_lstL, bi_lstT, bi_int, bi_bool, bi_abs, bi_max, bi_min, bi_sum, bi_all, seqOf_l, seqOf_t, bi_sorted, bi_repr, iop_a, iop_s, iop_m, itemsL, itemsT, ty1, ty2, ty3, ty4, ty5, ty6, ty7, ty8, ty9, ty10, isN0, isN1, isN2, isN3, isN4, isN5, decide_eq_true_eq, if_true, Bool.true_or, Bool.or_true, Bool.true_and, Bool.and_true, Bool.false_eq_true, if_false, noL_int, noL_bool, noL_tup, noLs_nil, noLs_cons, pints_map, pbools_map, Option.map_some, Bool.or_self, Bool.and_self, Bool.or_false, Bool.false_or, noLs_ints, ix0, ix1, ix2, frC_bool, frC_tup, frC_lst, biFr_tup, biFr_lst, biFr_int, frN_lst, frN_tup, frN_bool, cut2, slD_t, slD_l, true_and, and_true, mulZ hmm f3]
      refine ⟨fits_of (by simp), fits_of (by simp; omega), ?_⟩
      refine o3_map (e := PyData.int) (fun x => .int (0 - x)) (fun x hx => ?_) ?_
      · simp only [wss_nil, wss_one, w_ifs, w_ret, w_retN, w_pass, w_drop, w_sSet, w_sPop, we_var, we_none, we_tru, we_fls, we_int, we_str, we_op, we_neg, we_cmp, we_chain, we_isN, we_notN, we_isT, we_notT, we_not, we_and, we_or, we_ite, we_tup, we_lst, we_ix, we_sl, we_rev, we_bi, we_isi, we_call, we_lc, we_sInt, we_sCnt, wc_no, wc_so, wo_no, wo_so, ws_nil, ws_cons, ws_star, wi_val, wi_rg1, wi_rg2, wi_enum, wi_zip, wi_zips, we_idx, we_rl1, we_rl2, putX_nil, putX_no, wt_turn, O1_some, O2_some, O3_some, O1_ite, asB_b, asI_i, frC_int, frN_int, vals_nil, vals_cons, getV_zero, getV_succ, asgT_n, asgT_t, asgTs_n, asgTs_c, putT_n, putT_t, putTs_n, putTs_c, putAll_n, putAll_c, wipe_n, wipe_c, List.map_cons, List.map_nil, List.set_cons_succ, List.set_cons_zero, Option.bind_some, Option.map_some, Option.map_none, op2_add, op2_addT, op2_addL, op2_sub, op2_mul, op2_fdiv, op2_mod, cm2_lt, cm2_le, cm2_gt, cm2_ge, bi_lenL, bi_lenT, bi_tupL, bi_tupT, bi_lstL, bi_lstT, bi_int, bi_bool, bi_abs, bi_max, bi_min, bi_sum, bi_all, seqOf_l, seqOf_t, bi_sorted, bi_repr, iop_a, iop_s, iop_m, itemsL, itemsT, ty1, ty2, ty3, ty4, ty5, ty6, ty7, ty8, ty9, ty10, isN0, isN1, isN2, isN3, isN4, isN5, decide_eq_true_eq, if_true, Bool.true_or, Bool.or_true, Bool.true_and, Bool.and_true, Bool.false_eq_true, if_false, noL_int, noL_bool, noL_tup, noLs_nil, noLs_cons, pints_map, pbools_map, Option.map_some, Bool.or_self, Bool.and_self, Bool.or_false, Bool.false_or, noLs_ints, ix0, ix1, ix2, frC_bool, frC_tup, frC_lst, biFr_tup, biFr_lst, biFr_int, frN_lst, frN_tup, frN_bool, cut2, slD_t, slD_l, true_and, and_true]
      · have e : ms.map (fun x => (.int (0 - x) : D)) = (ms.map fun x => 0 - x).map .int := by simp
        simp only [e, wss_nil, wss_one, w_ifs, w_ret, w_retN, w_pass, w_drop, w_sSet, w_sPop, we_var, we_none, we_tru, we_fls, we_int, we_str, we_op, we_neg, we_cmp, we_chain, we_isN, we_notN, we_isT, we_notT, we_not, we_and, we_or, we_ite, we_tup, we_lst, we_ix, we_sl, we_rev, we_bi, we_isi, we_call, we_lc, we_sInt, we_sCnt, wc_no, wc_so, wo_no, wo_so, ws_nil, ws_cons, ws_star, wi_val, wi_rg1, wi_rg2, wi_enum, wi_zip, wi_zips, we_idx, we_rl1, we_rl2, putX_nil, putX_no, wt_turn, O1_some, O2_some, O3_some, O1_ite, asB_b, asI_i, frC_int, frN_int, vals_nil, vals_cons, getV_zero, getV_succ, asgT_n, asgT_t, asgTs_n, asgTs_c, putT_n, putT_t, putTs_n, putTs_c, putAll_n, putAll_c, wipe_n, wipe_c, List.map_cons, List.map_nil, List.set_cons_succ, List.set_cons_zero, Option.bind_some, Option.map_some, Option.map_none, op2_add, op2_addT, op2_addL, op2_sub, op2_mul, op2_fdiv, op2_mod, cm2_lt, cm2_le, cm2_gt, cm2_ge, bi_lenL, bi_lenT, bi_tupL, bi_tupT, bi_lstL, bi_lstT, bi_int, bi_bool, bi_abs, bi_max, bi_min, bi_sum, bi_all, seqOf_l, seqOf_t, bi_sorted, bi_repr, iop_a, iop_s, iop_m, itemsL, itemsT, ty1, ty2, ty3, ty4, ty5, ty6, ty7, ty8, ty9, ty10, isN0, isN1, isN2, isN3, isN4, isN5, decide_eq_true_eq, if_true, Bool.true_or, Bool.or_true, Bool.true_and, Bool.and_true, Bool.false_eq_true, if_false, noL_int, noL_bool, noL_tup, noLs_nil, noLs_cons, pints_map, pbools_map, Option.map_some, Bool.or_self, Bool.and_self, Bool.or_false, Bool.false_or, noLs_ints, ix0, ix1, ix2, frC_bool, frC_tup, frC_lst, biFr_tup, biFr_lst, biFr_int, frN_lst, frN_tup, frN_bool, cut2, slD_t, slD_l, true_and, and_true]
        exact ⟨fits_of (by simp), ⟨_, _, _, _, _, _, _, _, _, _, _, _, _, _, _, _, _, _, _, rfl⟩⟩
    clear m3 m4 m5 m6 m7 m13 m14 x2 x9 x10 x11 x12 x15 x16 x17 x18 x19 x20 x21
    rintro ⟨env, s⟩ ⟨m3, m4, m5, m6, m7, m13, m14, m15, x2, x9, x10, x11, x12, x16, x17, x18, x19, x20, x21, he⟩
    simp only at he
    subst he
    have hdr : ∀ r2 ∈ [row, List.replicate rs.length 0, ms, ms.map fun x => 0 - x], ms.length = r2.length := fun r2 h2 => by
      simp only [List.mem_cons, List.not_mem_nil, or_false] at h2
      rcases h2 with h2 | h2 | h2 | h2 <;> rw [h2]
      · omega
      · rw [List.length_replicate]; exact hml
      · rw [List.length_map]
    refine wss_seq (fun st => ∃ (m3 m4 m5 m6 m7 m13 m14 m15 : Bool) (x2 x9 x10 x11 x12 x16 x17 x18 x19 x20 x21 : Option (D × Bool)), st.env = [none, none, x2, some (eF n rs, m3), some (.int n, m4), some (.str (eF n rs).shown, m5), some (.int mm, m6), some (eRow ms, m7), some (.list ((ends rs ms).map ePair), true), x9, x10, x11, x12, some (eRow hs, m13), some (eRow row, m14), some (.list ([row, List.replicate rs.length 0, ms, ms.map fun x => 0 - x].map eRow), m15), x16, x17, x18, x19, x20, x21, none, none, none]) ?_ ?_
    · refine w_preV eRow (fun _ st => ∃ (m3 m4 m5 m6 m7 m13 m14 m15 : Bool) (x2 x9 x10 x11 x12 x16 x17 x18 x19 x20 x21 : Option (D × Bool)), st.env = [none, none, x2, some (eF n rs, m3), some (.int n, m4), some (.str (eF n rs).shown, m5), some (.int mm, m6), some (eRow ms, m7), some (.list ((ends rs ms).map ePair), true), x9, x10, x11, x12, some (eRow hs, m13), some (eRow row, m14), some (.list ([row, List.replicate rs.length 0, ms, ms.map fun x => 0 - x].map eRow), m15), x16, x17, x18, x19, x20, x21, none, none, none]) [row, List.replicate rs.length 0, ms, ms.map fun x => 0 - x] rfl rfl ?_ ?_ ?_
      · intro o'
        exact ⟨_, _, _, _, _, _, _, _, _, _, _, _, _, _, _, _, _, _, _, rfl⟩
      · clear m3 m4 m5 m6 m7 m13 m14 m15 x2 x9 x10 x11 x12 x16 x17 x18 x19 x20 x21
        rintro pre r2 post ⟨env, s⟩ hp ⟨m3, m4, m5, m6, m7, m13, m14, m15, x2, x9, x10, x11, x12, x16, x17, x18, x19, x20, x21, he⟩
        simp only at he
        subst he
        have h2 := hdr r2 (by rw [hp]; simp)
        simp only [putT_n, O1_some, List.set_cons_succ, List.set_cons_zero]
        rw [wss_one]
        have nbl : Nice 0 21 (.bool (along ms r2)) := ⟨by simp [PV.plain], by simp [PyData.depth], by simp [PV.sz]⟩
        simp only [wss_nil, wss_one, w_ifs, w_ret, w_retN, w_pass, w_drop, w_sSet, w_sPop, we_var, we_none, we_tru, we_fls, we_int, we_str, we_op, we_neg, we_cmp, we_chain, we_isN, we_notN, we_isT, we_notT, we_not, we_and, we_or, we_ite, we_tup, we_lst, we_ix, we_sl, we_rev, we_bi, we_isi, we_call, we_lc, we_sInt, we_sCnt, wc_no, wc_so, wo_no, wo_so, ws_nil, ws_cons, ws_star, wi_val, wi_rg1, wi_rg2, wi_enum, wi_zip, wi_zips, we_idx, we_rl1, we_rl2, putX_nil, putX_no, wt_turn, O1_some, O2_some, O3_some, O1_ite, asB_b, asI_i, frC_int, frN_int, vals_nil, vals_cons, getV_zero, getV_succ, asgT_n, asgT_t, asgTs_n, asgTs_c, putT_n, putT_t, putTs_n, putTs_c, putAll_n, putAll_c, wipe_n, wipe_c, List.map_cons, List.map_nil, List.set_cons_succ, List.set_cons_zero, Option.bind_some, Option.map_some, Option.map_none, op2_add, op2_addT, op2_addL, op2_sub, op2_mul, op2_fdiv, op2_mod, cm2_lt, cm2_le, cm2_gt, cm2_ge, bi_lenL, bi_lenT, bi_tupL, bi_tupT, bi_lstL, bi_lstT, bi_int, bi_bool, bi_abs, bi_max, bi_min, bi_sum, bi_all, seqOf_l, seqOf_t, bi_sorted, bi_repr, iop_a, iop_s, iop_m, itemsL, itemsT, ty1, ty2, ty3, ty4, ty5, ty6, ty7, ty8, ty9, ty10, isN0, isN1, isN2, isN3, isN4, isN5, decide_eq_true_eq, if_true, Bool.true_or, Bool.or_true, Bool.true_and, Bool.and_true, Bool.false_eq_true, if_false, noL_int, noL_bool, noL_tup, noLs_nil, noLs_cons, pints_map, pbools_map, Option.map_some, Bool.or_self, Bool.and_self, Bool.or_false, Bool.false_or, noLs_ints, ix0, ix1, ix2, frC_bool, frC_tup, frC_lst, biFr_tup, biFr_lst, biFr_int, frN_lst, frN_tup, frN_bool, cut2, slD_t, slD_l, true_and, and_true]
        refine along5 h2 (by omega) hms' ?_
        refine ⟨nbl.repr (by omega) (by omega), ?_⟩
        refine along12 h2 (by omega) hms' ?_
        refine ⟨nbl.repr (by omega) (by omega), ?_⟩
        rw [cm2_neS nbl.pl]
        simp only [wss_nil, wss_one, w_ifs, w_ret, w_retN, w_pass, w_drop, w_sSet, w_sPop, we_var, we_none, we_tru, we_fls, we_int, we_str, we_op, we_neg, we_cmp, we_chain, we_isN, we_notN, we_isT, we_notT, we_not, we_and, we_or, we_ite, we_tup, we_lst, we_ix, we_sl, we_rev, we_bi, we_isi, we_call, we_lc, we_sInt, we_sCnt, wc_no, wc_so, wo_no, wo_so, ws_nil, ws_cons, ws_star, wi_val, wi_rg1, wi_rg2, wi_enum, wi_zip, wi_zips, we_idx, we_rl1, we_rl2, putX_nil, putX_no, wt_turn, O1_some, O2_some, O3_some, O1_ite, asB_b, asI_i, frC_int, frN_int, vals_nil, vals_cons, getV_zero, getV_succ, asgT_n, asgT_t, asgTs_n, asgTs_c, putT_n, putT_t, putTs_n, putTs_c, putAll_n, putAll_c, wipe_n, wipe_c, List.map_cons, List.map_nil, List.set_cons_succ, List.set_cons_zero, Option.bind_some, Option.map_some, Option.map_none, op2_add, op2_addT, op2_addL, op2_sub, op2_mul, op2_fdiv, op2_mod, cm2_lt, cm2_le, cm2_gt, cm2_ge, bi_lenL, bi_lenT, bi_tupL, bi_tupT, bi_lstL, bi_lstT, bi_int, bi_bool, bi_abs, bi_max, bi_min, bi_sum, bi_all, seqOf_l, seqOf_t, bi_sorted, bi_repr, iop_a, iop_s, iop_m, itemsL, itemsT, ty1, ty2, ty3, ty4, ty5, ty6, ty7, ty8, ty9, ty10, isN0, isN1, isN2, isN3, isN4, isN5, decide_eq_true_eq, if_true, Bool.true_or, Bool.or_true, Bool.true_and, Bool.and_true, Bool.false_eq_true, if_false, noL_int, noL_bool, noL_tup, noLs_nil, noLs_cons, pints_map, pbools_map, Option.map_some, Bool.or_self, Bool.and_self, Bool.or_false, Bool.false_or, noLs_ints, ix0, ix1, ix2, frC_bool, frC_tup, frC_lst, biFr_tup, biFr_lst, biFr_int, frN_lst, frN_tup, frN_bool, cut2, slD_t, slD_l, true_and, and_true]
        exact ⟨_, _, _, _, _, _, _, _, _, _, _, _, _, _, _, _, _, _, _, rfl⟩
      · intro st h
        exact h
    clear m3 m4 m5 m6 m7 m13 m14 m15 x2 x9 x10 x11 x12 x16 x17 x18 x19 x20 x21
    rintro ⟨env, s⟩ ⟨m3, m4, m5, m6, m7, m13, m14, m15, x2, x9, x10, x11, x12, x16, x17, x18, x19, x20, x21, he⟩
    simp only at he
    subst he
    refine wss_seq (fun st => ∃ (pl : Int) (m3 m4 m5 m6 m7 m13 m14 m15 m17 : Bool) (x2 x9 x10 x11 x12 x16 x18 x19 x20 x21 : Option (D × Bool)), 0 ≤ pl ∧ pl ≤ 8 ∧ st.env = [none, none, x2, some (eF n rs, m3), some (.int n, m4), some (.str (eF n rs).shown, m5), some (.int mm, m6), some (eRow ms, m7), some (.list ((ends rs ms).map ePair), true), x9, x10, x11, x12, some (eRow hs, m13), some (eRow row, m14), some (.list ([row, List.replicate rs.length 0, ms, ms.map fun x => 0 - x].map eRow), m15), x16, some (.int pl, m17), x18, x19, x20, x21, none, none, none]) (w_asg ?_) ?_
    · simp only [wss_nil, wss_one, w_ifs, w_ret, w_retN, w_pass, w_drop, w_sSet, w_sPop, we_var, we_none, we_tru, we_fls, we_int, we_str, we_op, we_neg, we_cmp, we_chain, we_isN, we_notN, we_isT, we_notT, we_not, we_and, we_or, we_ite, we_tup, we_lst, we_ix, we_sl, we_rev, we_bi, we_isi, we_call, we_lc, we_sInt, we_sCnt, wc_no, wc_so, wo_no, wo_so, ws_nil, ws_cons, ws_star, wi_val, wi_rg1, wi_rg2, wi_enum, wi_zip, wi_zips, we_idx, we_rl1, we_rl2, putX_nil, putX_no, wt_turn, O1_some, O2_some, O3_some, O1_ite, asB_b, asI_i, frC_int, frN_int, vals_nil, vals_cons, getV_zero, getV_succ, asgT_n, asgT_t, asgTs_n, asgTs_c, putT_n, putT_t, putTs_n, putTs_c, putAll_n, putAll_c, wipe_n, wipe_c, List.map_cons, List.map_nil, List.set_cons_succ, List.set_cons_zero, Option.bind_some, Option.map_some, Option.map_none, op2_add, op2_addT, op2_addL, op2_sub, op2_mul, op2_fdiv, op2_mod, cm2_lt, cm2_le, cm2_gt, cm2_ge, bi_lenL, bi_lenT, bi_tupL, bi_tupT, bi_lstL, bi_lstT, bi_int, bi_bool, bi_abs, bi_max, bi_min, bi_sum, bi_all, seqOf_l, seqOf_t, bi_sorted, bi_repr, iop_a, iop_s, iop_m, itemsL, itemsT, ty1, ty2, ty3, ty4, ty5, ty6, ty7, ty8, ty9, ty10, isN0, isN1, isN2, isN3, isN4, isN5, decide_eq_true_eq, if_true, Bool.true_or, Bool.or_true, Bool.true_and, Bool.and_true, Bool.false_eq_true, if_false, noL_int, noL_bool, noL_tup, noLs_nil, noLs_cons, pints_map, pbools_map, Option.map_some, Bool.or_self, Bool.and_self, Bool.or_false, Bool.false_or, noLs_ints, ix0, ix1, ix2, frC_bool, frC_tup, frC_lst, biFr_tup, biFr_lst, biFr_int, frN_lst, frN_tup, frN_bool, cut2, slD_t, slD_l, true_and, and_true]
      refine pick_ok hPick hW (by split <;> omega) fun pl s' p0 p1 p2 => ?_
      have : pl < 9 := by
        have := p1 (by split <;> omega)
        split at this <;> omega
      simp only [wss_nil, wss_one, w_ifs, w_ret, w_retN, w_pass, w_drop, w_sSet, w_sPop, we_var, we_none, we_tru, we_fls, we_int, we_str, we_op, we_neg, we_cmp, we_chain, we_isN, we_notN, we_isT, we_notT, we_not, we_and, we_or, we_ite, we_tup, we_lst, we_ix, we_sl, we_rev, we_bi, we_isi, we_call, we_lc, we_sInt, we_sCnt, wc_no, wc_so, wo_no, wo_so, ws_nil, ws_cons, ws_star, wi_val, wi_rg1, wi_rg2, wi_enum, wi_zip, wi_zips, we_idx, we_rl1, we_rl2, putX_nil, putX_no, wt_turn, O1_some, O2_some, O3_some, O1_ite, asB_b, asI_i, frC_int, frN_int, vals_nil, vals_cons, getV_zero, getV_succ, asgT_n, asgT_t, asgTs_n, asgTs_c, putT_n, putT_t, putTs_n, putTs_c, putAll_n, putAll_c, wipe_n, wipe_c, List.map_cons, List.map_nil, List.set_cons_succ, List.set_cons_zero, Option.bind_some, Option.map_some, Option.map_none, op2_add, op2_addT, op2_addL, op2_sub, op2_mul, op2_fdiv, op2_mod, cm2_lt, cm2_le, cm2_gt, cm2_ge, bi_lenL, bi_lenT, bi_tupL, bi_tupT, bi_lstL, bi_lstT, bi_int, bi_bool, bi_abs, bi_max, bi_min, bi_sum, bi_all, seqOf_l, seqOf_t, bi_sorted, bi_repr, iop_a, iop_s, iop_m, itemsL, itemsT, ty1, ty2, ty3, ty4, ty5, ty6, ty7, ty8, ty9, ty10, isN0, isN1, isN2, isN3, isN4, isN5, decide_eq_true_eq, if_true, Bool.true_or, Bool.or_true, Bool.true_and, Bool.and_true, Bool.false_eq_true, if_false, noL_int, noL_bool, noL_tup, noLs_nil, noLs_cons, pints_map, pbools_map, Option.map_some, Bool.or_self, Bool.and_self, Bool.or_false, Bool.false_or, noLs_ints, ix0, ix1, ix2, frC_bool, frC_tup, frC_lst, biFr_tup, biFr_lst, biFr_int, frN_lst, frN_tup, frN_bool, cut2, slD_t, slD_l, true_and, and_true]
      exact ⟨pl, _, _, _, _, _, _, _, _, _, _, _, _, _, _, _, _, _, _, _, p0, by omega, rfl⟩
    clear m3 m4 m5 m6 m7 m13 m14 m15 x2 x9 x10 x11 x12 x16 x17 x18 x19 x20 x21
    rintro ⟨env, s⟩ ⟨pl, m3, m4, m5, m6, m7, m13, m14, m15, m17, x2, x9, x10, x11, x12, x16, x18, x19, x20, x21, p0, p1, he⟩
    simp only at he
    subst he
    refine wss_seq (fun st => ∃ (od : D) (m3 m4 m5 m6 m7 m13 m14 m15 m17 m18 : Bool) (x2 x9 x10 x11 x12 x16 x19 x20 x21 : Option (D × Bool)), Odd od ∧ st.env = [none, none, x2, some (eF n rs, m3), some (.int n, m4), some (.str (eF n rs).shown, m5), some (.int mm, m6), some (eRow ms, m7), some (.list ((ends rs ms).map ePair), true), x9, x10, x11, x12, some (eRow hs, m13), some (eRow row, m14), some (.list ([row, List.replicate rs.length 0, ms, ms.map fun x => 0 - x].map eRow), m15), x16, some (.int pl, m17), some (od, m18), x19, x20, x21, none, none, none]) (w_asgM (P := fun d _ => Odd d) ?_ ?_ ?_) ?_
    · simp only [wss_nil, wss_one, w_ifs, w_ret, w_retN, w_pass, w_drop, w_sSet, w_sPop, we_var, we_none, we_tru, we_fls, we_int, we_str, we_op, we_neg, we_cmp, we_chain, we_isN, we_notN, we_isT, we_notT, we_not, we_and, we_or, we_ite, we_tup, we_lst, we_ix, we_sl, we_rev, we_bi, we_isi, we_call, we_lc, we_sInt, we_sCnt, wc_no, wc_so, wo_no, wo_so, ws_nil, ws_cons, ws_star, wi_val, wi_rg1, wi_rg2, wi_enum, wi_zip, wi_zips, we_idx, we_rl1, we_rl2, putX_nil, putX_no, wt_turn, O1_some, O2_some, O3_some, O1_ite, asB_b, asI_i, frC_int, frN_int, vals_nil, vals_cons, getV_zero, getV_succ, asgT_n, asgT_t, asgTs_n, asgTs_c, putT_n, putT_t, putTs_n, putTs_c, putAll_n, putAll_c, wipe_n, wipe_c, List.map_cons, List.map_nil, List.set_cons_succ, List.set_cons_zero, Option.bind_some, Option.map_some, Option.map_none, op2_add, op2_addT, op2_addL, op2_sub, op2_mul, op2_fdiv, op2_mod, cm2_lt, cm2_le, cm2_gt, cm2_ge, bi_lenL, bi_lenT, bi_tupL, bi_tupT, bi_lstL, bi_lstT, bi_int, bi_bool, bi_abs, bi_max, bi_min, bi_sum, bi_all, seqOf_l, seqOf_t, bi_sorted, bi_repr, iop_a, iop_s, iop_m, itemsL, itemsT, ty1, ty2, ty3, ty4, ty5, ty6, ty7, ty8, ty9, ty10, isN0, isN1, isN2, isN3, isN4, isN5, decide_eq_true_eq, if_true, Bool.true_or, Bool.or_true, Bool.true_and, Bool.and_true, Bool.false_eq_true, if_false, noL_int, noL_bool, noL_tup, noLs_nil, noLs_cons, pints_map, pbools_map, Option.map_some, Bool.or_self, Bool.and_self, Bool.or_false, Bool.false_or, noLs_ints, ix0, ix1, ix2, frC_bool, frC_tup, frC_lst, biFr_tup, biFr_lst, biFr_int, frN_lst, frN_tup, frN_bool, cut2, slD_t, slD_l, true_and, and_true, frz_ev, frzC_c, frzC_n, mask_ev, maskC_c, maskC_n, inB_c, inB_n, Nat.zero_add, Nat.reduceAdd, Nat.reduceBEq, Bool.true_and, Bool.or_self, putAllM_c, putAllM_n]
      refine ⟨fits_of (by simp), fits_of (by simp), fits_of (by simp), ?_⟩
      refine of_ok hPick hOf hW rfl (by simp) (by simp) fun d hd s' => ?_
      simp only [List.mem_cons, List.not_mem_nil, or_false] at hd
      exact hd
    · simp only [wss_nil, wss_one, w_ifs, w_ret, w_retN, w_pass, w_drop, w_sSet, w_sPop, we_var, we_none, we_tru, we_fls, we_int, we_str, we_op, we_neg, we_cmp, we_chain, we_isN, we_notN, we_isT, we_notT, we_not, we_and, we_or, we_ite, we_tup, we_lst, we_ix, we_sl, we_rev, we_bi, we_isi, we_call, we_lc, we_sInt, we_sCnt, wc_no, wc_so, wo_no, wo_so, ws_nil, ws_cons, ws_star, wi_val, wi_rg1, wi_rg2, wi_enum, wi_zip, wi_zips, we_idx, we_rl1, we_rl2, putX_nil, putX_no, wt_turn, O1_some, O2_some, O3_some, O1_ite, asB_b, asI_i, frC_int, frN_int, vals_nil, vals_cons, getV_zero, getV_succ, asgT_n, asgT_t, asgTs_n, asgTs_c, putT_n, putT_t, putTs_n, putTs_c, putAll_n, putAll_c, wipe_n, wipe_c, List.map_cons, List.map_nil, List.set_cons_succ, List.set_cons_zero, Option.bind_some, Option.map_some, Option.map_none, op2_add, op2_addT, op2_addL, op2_sub, op2_mul, op2_fdiv, op2_mod, cm2_lt, cm2_le, cm2_gt, cm2_ge, bi_lenL, bi_lenT, bi_tupL, bi_tupT, bi_lstL, bi_lstT, bi_int, bi_bool, bi_abs, bi_max, bi_min, bi_sum, bi_all, seqOf_l, seqOf_t, bi_sorted, bi_repr, iop_a, iop_s, iop_m, itemsL, itemsT, ty1, ty2, ty3, ty4, ty5, ty6, ty7, ty8, ty9, ty10, isN0, isN1, isN2, isN3, isN4, isN5, decide_eq_true_eq, if_true, Bool.true_or, Bool.or_true, Bool.true_and, Bool.and_true, Bool.false_eq_true, if_false, noL_int, noL_bool, noL_tup, noLs_nil, noLs_cons, pints_map, pbools_map, Option.map_some, Bool.or_self, Bool.and_self, Bool.or_false, Bool.false_or, noLs_ints, ix0, ix1, ix2, frC_bool, frC_tup, frC_lst, biFr_tup, biFr_lst, biFr_int, frN_lst, frN_tup, frN_bool, cut2, slD_t, slD_l, true_and, and_true, frz_ev, frzC_c, frzC_n, mask_ev, maskC_c, maskC_n, inB_c, inB_n, Nat.zero_add, Nat.reduceAdd, Nat.reduceBEq, Bool.true_and, Bool.or_self, putAllM_c, putAllM_n]
      refine ⟨fits_of (by simp), fits_of (by simp), fits_of (by simp), ?_⟩
      refine of_ok hPick hOf hW rfl (by simp) (by simp) fun d hd s' => ?_
      simp only [List.mem_cons, List.not_mem_nil, or_false] at hd
      exact hd
    · rintro od s ho
      refine ⟨?_, ?_⟩ <;> simp only [wss_nil, wss_one, w_ifs, w_ret, w_retN, w_pass, w_drop, w_sSet, w_sPop, we_var, we_none, we_tru, we_fls, we_int, we_str, we_op, we_neg, we_cmp, we_chain, we_isN, we_notN, we_isT, we_notT, we_not, we_and, we_or, we_ite, we_tup, we_lst, we_ix, we_sl, we_rev, we_bi, we_isi, we_call, we_lc, we_sInt, we_sCnt, wc_no, wc_so, wo_no, wo_so, ws_nil, ws_cons, ws_star, wi_val, wi_rg1, wi_rg2, wi_enum, wi_zip, wi_zips, we_idx, we_rl1, we_rl2, putX_nil, putX_no, wt_turn, O1_some, O2_some, O3_some, O1_ite, asB_b, asI_i, frC_int, frN_int, vals_nil, vals_cons, getV_zero, getV_succ, asgT_n, asgT_t, asgTs_n, asgTs_c, putT_n, putT_t, putTs_n, putTs_c, putAll_n, putAll_c, wipe_n, wipe_c, List.map_cons, List.map_nil, List.set_cons_succ, List.set_cons_zero, Option.bind_some, Option.map_some, Option.map_none, op2_add, op2_addT, op2_addL, op2_sub, op2_mul, op2_fdiv, op2_mod, cm2_lt, cm2_le, cm2_gt, cm2_ge, bi_lenL, bi_lenT, bi_tupL, bi_tupT, bi_lstL, bi_lstT, bi_int, bi_bool, bi_abs, bi_max, bi_min, bi_sum, bi_all, seqOf_l, seqOf_t, bi_sorted, bi_repr, iop_a, iop_s, iop_m, itemsL, itemsT, ty1, ty2, ty3, ty4, ty5, ty6, ty7, ty8, ty9, ty10, isN0, isN1, isN2, isN3, isN4, isN5, decide_eq_true_eq, if_true, Bool.true_or, Bool.or_true, Bool.true_and, Bool.and_true, Bool.false_eq_true, if_false, noL_int, noL_bool, noL_tup, noLs_nil, noLs_cons, pints_map, pbools_map, Option.map_some, Bool.or_self, Bool.and_self, Bool.or_false, Bool.false_or, noLs_ints, ix0, ix1, ix2, frC_bool, frC_tup, frC_lst, biFr_tup, biFr_lst, biFr_int, frN_lst, frN_tup, frN_bool, cut2, slD_t, slD_l, true_and, and_true, frz_ev, frzC_c, frzC_n, mask_ev, maskC_c, maskC_n, inB_c, inB_n, Nat.zero_add, Nat.reduceAdd, Nat.reduceBEq, Bool.true_and, Bool.or_self, putAllM_c, putAllM_n]
      · exact ⟨od, _, _, _, _, _, _, _, _, _, _, _, _, _, _, _, _, _, _, _, ho, rfl⟩
      · exact ⟨od, _, _, _, _, _, _, _, _, _, _, _, _, _, _, _, _, _, _, _, ho, rfl⟩
    clear m3 m4 m5 m6 m7 m13 m14 m15 m17 x2 x9 x10 x11 x12 x16 x18 x19 x20 x21
    rintro ⟨env, s⟩ ⟨od, m3, m4, m5, m6, m7, m13, m14, m15, m17, m18, x2, x9, x10, x11, x12, x16, x19, x20, x21, hod, he⟩
    simp only at he
    subst he
    have nr := nice_row hms'
    have vr : Val (eRow ms) := val_tup nr (by rw [List.length_map]; omega)
    have i0 : Nice 1 30 (.int 1) := (nice_int (by decide)).mono (by omega) (by omega)
    have cutsub : ∀ (lo hi : Option Int), ∀ x ∈ PV.cutD (ms.map PyData.int) lo hi, Nice 1 30 x := fun lo hi x hx => nr x (List.mem_of_mem_drop (List.mem_of_mem_take hx))
    have cutlen : ∀ (lo hi : Option Int), (PV.cutD (ms.map PyData.int) lo hi).length ≤ 8 := fun lo hi => by
      unfold PV.cutD
      simp only [List.length_take, List.length_drop, List.length_map]
      omega
    have od1 := hod.nice
    refine wss_seq (fun st => ∃ (vs : List D) (m3 m4 m5 m6 m7 m13 m14 m15 m17 m18 m19 : Bool) (x2 x9 x10 x11 x12 x16 x20 x21 : Option (D × Bool)), vs.length ≤ 8 ∧ (∀ v ∈ vs, Val v) ∧ st.env = [none, none, x2, some (eF n rs, m3), some (.int n, m4), some (.str (eF n rs).shown, m5), some (.int mm, m6), some (eRow ms, m7), some (.list ((ends rs ms).map ePair), true), x9, x10, x11, x12, some (eRow hs, m13), some (eRow row, m14), some (.list ([row, List.replicate rs.length 0, ms, ms.map fun x => 0 - x].map eRow), m15), x16, some (.int pl, m17), some (od, m18), some (.list vs, m19), x20, x21, none, none, none]) (w_asgM (P := fun d _ => ∃ vs : List D, vs.length ≤ 8 ∧ (∀ v ∈ vs, Val v) ∧ d = .list vs) ?_ ?_ ?_) ?_
    · simp only [eRow, wss_nil, wss_one, w_ifs, w_ret, w_retN, w_pass, w_drop, w_sSet, w_sPop, we_var, we_none, we_tru, we_fls, we_int, we_str, we_op, we_neg, we_cmp, we_chain, we_isN, we_notN, we_isT, we_notT, we_not, we_and, we_or, we_ite, we_tup, we_lst, we_ix, we_sl, we_rev, we_bi, we_isi, we_call, we_lc, we_sInt, we_sCnt, wc_no, wc_so, wo_no, wo_so, ws_nil, ws_cons, ws_star, wi_val, wi_rg1, wi_rg2, wi_enum, wi_zip, wi_zips, we_idx, we_rl1, we_rl2, putX_nil, putX_no, wt_turn, O1_some, O2_some, O3_some, O1_ite, asB_b, asI_i, frC_int, frN_int, vals_nil, vals_cons, getV_zero, getV_succ, asgT_n, asgT_t, asgTs_n, asgTs_c, putT_n, putT_t, putTs_n, putTs_c, putAll_n, putAll_c, wipe_n, wipe_c, List.map_cons, List.map_nil, List.set_cons_succ, List.set_cons_zero, Option.bind_some, Option.map_some, Option.map_none, op2_add, op2_addT, op2_addL, op2_sub, op2_mul, op2_fdiv, op2_mod, cm2_lt, cm2_le, cm2_gt, cm2_ge, bi_lenL, bi_lenT, bi_tupL, bi_tupT, bi_lstL, bi_lstT, bi_int, bi_bool, bi_abs, bi_max, bi_min, bi_sum, bi_all, seqOf_l, seqOf_t, bi_sorted, bi_repr, iop_a, iop_s, iop_m, itemsL, itemsT, ty1, ty2, ty3, ty4, ty5, ty6, ty7, ty8, ty9, ty10, isN0, isN1, isN2, isN3, isN4, isN5, decide_eq_true_eq, if_true, Bool.true_or, Bool.or_true, Bool.true_and, Bool.and_true, Bool.false_eq_true, if_false, noL_int, noL_bool, noL_tup, noLs_nil, noLs_cons, pints_map, pbools_map, Option.map_some, Bool.or_self, Bool.and_self, Bool.or_false, Bool.false_or, noLs_ints, ix0, ix1, ix2, frC_bool, frC_tup, frC_lst, biFr_tup, biFr_lst, biFr_int, frN_lst, frN_tup, frN_bool, cut2, slD_t, slD_l, true_and, and_true, frz_ev, frzC_c, frzC_n, mask_ev, maskC_c, maskC_n, inB_c, inB_n, Nat.zero_add, Nat.reduceAdd, Nat.reduceBEq, Bool.true_and, Bool.or_self, putAllM_c, putAllM_n]
      refine ⟨fits_of (by simp), fits_of (by simp; omega), fits_of (by simp), fits_of (by have := cutlen none (some pl); simp; omega), fits_of (by have := cutlen none (some pl); have := cutlen (some (pl + 1)) none; simp only [List.length_append, List.length_cons, List.length_nil]; omega), fits_of (by simp), fits_of (by simp), _, ?_, ?_, rfl⟩
      · simp
      · intro v hv
        simp only [List.mem_cons, List.not_mem_nil, or_false] at hv
        rcases hv with rfl | rfl | rfl | rfl | rfl | rfl | rfl | rfl
        · exact vr
        · exact ⟨(nice_lst nr).mono (by omega) (by rw [List.length_map]; omega), fun _ e => nomatch e⟩
        · exact val_tup (cutsub _ _) (by have := cutlen (some 1) none; omega)
        · refine val_tup (fun x hx => ?_) (by simp; omega)
          rcases List.mem_append.mp hx with hx | hx
          · exact nr x hx
          · rw [List.mem_singleton.mp hx]; exact i0
        · refine val_tup (fun x hx => ?_) (by have := cutlen none (some pl); have := cutlen (some (pl + 1)) none; simp only [List.length_append, List.length_cons, List.length_nil]; omega)
          rcases List.mem_append.mp hx with hx | hx
          · rcases List.mem_append.mp hx with hx | hx
            · exact cutsub _ _ x hx
            · rw [List.mem_singleton.mp hx]; exact od1
          · exact cutsub _ _ x hx
        · exact hod.val
        · exact ⟨nice_none.mono (by omega) (by omega), fun _ e => nomatch e⟩
        · exact val_tup (fun x hx => nomatch hx) (by simp)
    · simp only [eRow, wss_nil, wss_one, w_ifs, w_ret, w_retN, w_pass, w_drop, w_sSet, w_sPop, we_var, we_none, we_tru, we_fls, we_int, we_str, we_op, we_neg, we_cmp, we_chain, we_isN, we_notN, we_isT, we_notT, we_not, we_and, we_or, we_ite, we_tup, we_lst, we_ix, we_sl, we_rev, we_bi, we_isi, we_call, we_lc, we_sInt, we_sCnt, wc_no, wc_so, wo_no, wo_so, ws_nil, ws_cons, ws_star, wi_val, wi_rg1, wi_rg2, wi_enum, wi_zip, wi_zips, we_idx, we_rl1, we_rl2, putX_nil, putX_no, wt_turn, O1_some, O2_some, O3_some, O1_ite, asB_b, asI_i, frC_int, frN_int, vals_nil, vals_cons, getV_zero, getV_succ, asgT_n, asgT_t, asgTs_n, asgTs_c, putT_n, putT_t, putTs_n, putTs_c, putAll_n, putAll_c, wipe_n, wipe_c, List.map_cons, List.map_nil, List.set_cons_succ, List.set_cons_zero, Option.bind_some, Option.map_some, Option.map_none, op2_add, op2_addT, op2_addL, op2_sub, op2_mul, op2_fdiv, op2_mod, cm2_lt, cm2_le, cm2_gt, cm2_ge, bi_lenL, bi_lenT, bi_tupL, bi_tupT, bi_lstL, bi_lstT, bi_int, bi_bool, bi_abs, bi_max, bi_min, bi_sum, bi_all, seqOf_l, seqOf_t, bi_sorted, bi_repr, iop_a, iop_s, iop_m, itemsL, itemsT, ty1, ty2, ty3, ty4, ty5, ty6, ty7, ty8, ty9, ty10, isN0, isN1, isN2, isN3, isN4, isN5, decide_eq_true_eq, if_true, Bool.true_or, Bool.or_true, Bool.true_and, Bool.and_true, Bool.false_eq_true, if_false, noL_int, noL_bool, noL_tup, noLs_nil, noLs_cons, pints_map, pbools_map, Option.map_some, Bool.or_self, Bool.and_self, Bool.or_false, Bool.false_or, noLs_ints, ix0, ix1, ix2, frC_bool, frC_tup, frC_lst, biFr_tup, biFr_lst, biFr_int, frN_lst, frN_tup, frN_bool, cut2, slD_t, slD_l, true_and, and_true, frz_ev, frzC_c, frzC_n, mask_ev, maskC_c, maskC_n, inB_c, inB_n, Nat.zero_add, Nat.reduceAdd, Nat.reduceBEq, Bool.true_and, Bool.or_self, putAllM_c, putAllM_n]
      refine ⟨fits_of (by simp), fits_of (by simp; omega), fits_of (by simp), fits_of (by have := cutlen none (some pl); simp; omega), fits_of (by have := cutlen none (some pl); have := cutlen (some (pl + 1)) none; simp only [List.length_append, List.length_cons, List.length_nil]; omega), fits_of (by simp), fits_of (by simp), _, ?_, ?_, rfl⟩
      · simp
      · intro v hv
        simp only [List.mem_cons, List.not_mem_nil, or_false] at hv
        rcases hv with rfl | rfl | rfl | rfl | rfl | rfl | rfl | rfl
        · exact vr
        · exact ⟨(nice_lst nr).mono (by omega) (by rw [List.length_map]; omega), fun _ e => nomatch e⟩
        · exact val_tup (cutsub _ _) (by have := cutlen (some 1) none; omega)
        · refine val_tup (fun x hx => ?_) (by simp; omega)
          rcases List.mem_append.mp hx with hx | hx
          · exact nr x hx
          · rw [List.mem_singleton.mp hx]; exact i0
        · refine val_tup (fun x hx => ?_) (by have := cutlen none (some pl); have := cutlen (some (pl + 1)) none; simp only [List.length_append, List.length_cons, List.length_nil]; omega)
          rcases List.mem_append.mp hx with hx | hx
          · rcases List.mem_append.mp hx with hx | hx
            · exact cutsub _ _ x hx
            · rw [List.mem_singleton.mp hx]; exact od1
          · exact cutsub _ _ x hx
        · exact hod.val
        · exact ⟨nice_none.mono (by omega) (by omega), fun _ e => nomatch e⟩
        · exact val_tup (fun x hx => nomatch hx) (by simp)
    · rintro d s ⟨vs, v1, v2, rfl⟩
      refine ⟨?_, ?_⟩ <;> simp only [wss_nil, wss_one, w_ifs, w_ret, w_retN, w_pass, w_drop, w_sSet, w_sPop, we_var, we_none, we_tru, we_fls, we_int, we_str, we_op, we_neg, we_cmp, we_chain, we_isN, we_notN, we_isT, we_notT, we_not, we_and, we_or, we_ite, we_tup, we_lst, we_ix, we_sl, we_rev, we_bi, we_isi, we_call, we_lc, we_sInt, we_sCnt, wc_no, wc_so, wo_no, wo_so, ws_nil, ws_cons, ws_star, wi_val, wi_rg1, wi_rg2, wi_enum, wi_zip, wi_zips, we_idx, we_rl1, we_rl2, putX_nil, putX_no, wt_turn, O1_some, O2_some, O3_some, O1_ite, asB_b, asI_i, frC_int, frN_int, vals_nil, vals_cons, getV_zero, getV_succ, asgT_n, asgT_t, asgTs_n, asgTs_c, putT_n, putT_t, putTs_n, putTs_c, putAll_n, putAll_c, wipe_n, wipe_c, List.map_cons, List.map_nil, List.set_cons_succ, List.set_cons_zero, Option.bind_some, Option.map_some, Option.map_none, op2_add, op2_addT, op2_addL, op2_sub, op2_mul, op2_fdiv, op2_mod, cm2_lt, cm2_le, cm2_gt, cm2_ge, bi_lenL, bi_lenT, bi_tupL, bi_tupT, bi_lstL, bi_lstT, bi_int, bi_bool, bi_abs, bi_max, bi_min, bi_sum, bi_all, seqOf_l, seqOf_t, bi_sorted, bi_repr, iop_a, iop_s, iop_m, itemsL, itemsT, ty1, ty2, ty3, ty4, ty5, ty6, ty7, ty8, ty9, ty10, isN0, isN1, isN2, isN3, isN4, isN5, decide_eq_true_eq, if_true, Bool.true_or, Bool.or_true, Bool.true_and, Bool.and_true, Bool.false_eq_true, if_false, noL_int, noL_bool, noL_tup, noLs_nil, noLs_cons, pints_map, pbools_map, Option.map_some, Bool.or_self, Bool.and_self, Bool.or_false, Bool.false_or, noLs_ints, ix0, ix1, ix2, frC_bool, frC_tup, frC_lst, biFr_tup, biFr_lst, biFr_int, frN_lst, frN_tup, frN_bool, cut2, slD_t, slD_l, true_and, and_true, frz_ev, frzC_c, frzC_n, mask_ev, maskC_c, maskC_n, inB_c, inB_n, Nat.zero_add, Nat.reduceAdd, Nat.reduceBEq, Bool.true_and, Bool.or_self, putAllM_c, putAllM_n]
      · exact ⟨vs, _, _, _, _, _, _, _, _, _, _, _, _, _, _, _, _, _, _, _, v1, v2, rfl⟩
      · exact ⟨vs, _, _, _, _, _, _, _, _, _, _, _, _, _, _, _, _, _, _, _, v1, v2, rfl⟩
    clear m3 m4 m5 m6 m7 m13 m14 m15 m17 m18 x2 x9 x10 x11 x12 x16 x19 x20 x21
    rintro ⟨env, s⟩ ⟨vs, m3, m4, m5, m6, m7, m13, m14, m15, m17, m18, m19, x2, x9, x10, x11, x12, x16, x20, x21, v1, v2, he⟩
    simp only at he
    subst he
    have vrep : ∀ x : D, Nice 1 30 x → Val (.tuple (List.replicate mm.toNat x)) := fun x hx => val_tup (fun y hy => by rw [List.eq_of_mem_replicate hy]; exact hx) (by simp; omega)
    have mz : op2 .mul (.tuple [.int 0]) (.int mm) = _ := mulT_ok (x := .int 0) (by omega) (by omega)
    have mt : op2 .mul (.tuple [.bool true]) (.int mm) = _ := mulT_ok (x := .bool true) (by omega) (by omega)
    have iz : Nice 1 30 (.int 0) := (nice_int (by decide)).mono (by omega) (by omega)
    have it : Nice 1 30 (.bool true) := nice_bool.mono (by omega) (by omega)
    refine wss_seq (fun st => ∃ (m3 m4 m5 m6 m7 m13 m14 m15 m17 m18 m19 : Bool) (x2 x9 x10 x11 x12 x16 x20 x21 : Option (D × Bool)), st.env = [none, none, x2, some (eF n rs, m3), some (.int n, m4), some (.str (eF n rs).shown, m5), some (.int mm, m6), some (eRow ms, m7), some (.list ((ends rs ms).map ePair), true), x9, x10, x11, x12, some (eRow hs, m13), some (eRow row, m14), some (.list ([row, List.replicate rs.length 0, ms, ms.map fun x => 0 - x].map eRow), m15), x16, some (.int pl, m17), some (od, m18), some (.list vs, m19), x20, x21, none, none, none]) (w_forM (P := fun ds _ => ∀ v ∈ ds, Val v) (fun rest st => (∀ v ∈ rest, Val v) ∧ ∃ (m3 m4 m5 m6 m7 m13 m14 m15 m17 m18 m19 : Bool) (x2 x9 x10 x11 x12 x16 x20 x21 : Option (D × Bool)), st.env = [none, none, x2, some (eF n rs, m3), some (.int n, m4), some (.str (eF n rs).shown, m5), some (.int mm, m6), some (eRow ms, m7), some (.list ((ends rs ms).map ePair), true), x9, x10, x11, x12, some (eRow hs, m13), some (eRow row, m14), some (.list ([row, List.replicate rs.length 0, ms, ms.map fun x => 0 - x].map eRow), m15), x16, some (.int pl, m17), some (od, m18), some (.list vs, m19), x20, x21, none, none, none]) ?_ ?_ ?_ ?_ ?_) ?_
    · simp only [wss_nil, wss_one, w_ifs, w_ret, w_retN, w_pass, w_drop, w_sSet, w_sPop, we_var, we_none, we_tru, we_fls, we_int, we_str, we_op, we_neg, we_cmp, we_chain, we_isN, we_notN, we_isT, we_notT, we_not, we_and, we_or, we_ite, we_tup, we_lst, we_ix, we_sl, we_rev, we_bi, we_isi, we_call, we_lc, we_sInt, we_sCnt, wc_no, wc_so, wo_no, wo_so, ws_nil, ws_cons, ws_star, wi_val, wi_rg1, wi_rg2, wi_enum, wi_zip, wi_zips, we_idx, we_rl1, we_rl2, putX_nil, putX_no, wt_turn, O1_some, O2_some, O3_some, O1_ite, asB_b, asI_i, frC_int, frN_int, vals_nil, vals_cons, getV_zero, getV_succ, asgT_n, asgT_t, asgTs_n, asgTs_c, putT_n, putT_t, putTs_n, putTs_c, putAll_n, putAll_c, wipe_n, wipe_c, List.map_cons, List.map_nil, List.set_cons_succ, List.set_cons_zero, Option.bind_some, Option.map_some, Option.map_none, op2_add, op2_addT, op2_addL, op2_sub, op2_mul, op2_fdiv, op2_mod, cm2_lt, cm2_le, cm2_gt, cm2_ge, bi_lenL, bi_lenT, bi_tupL, bi_tupT, bi_lstL, bi_lstT, bi_int, bi_bool, bi_abs, bi_max, bi_min, bi_sum, bi_all, seqOf_l, seqOf_t, bi_sorted, bi_repr, iop_a, iop_s, iop_m, itemsL, itemsT, ty1, ty2, ty3, ty4, ty5, ty6, ty7, ty8, ty9, ty10, isN0, isN1, isN2, isN3, isN4, isN5, decide_eq_true_eq, if_true, Bool.true_or, Bool.or_true, Bool.true_and, Bool.and_true, Bool.false_eq_true, if_false, noL_int, noL_bool, noL_tup, noLs_nil, noLs_cons, pints_map, pbools_map, Option.map_some, Bool.or_self, Bool.and_self, Bool.or_false, Bool.false_or, noLs_ints, ix0, ix1, ix2, frC_bool, frC_tup, frC_lst, biFr_tup, biFr_lst, biFr_int, frN_lst, frN_tup, frN_bool, cut2, slD_t, slD_l, true_and, and_true, frz_ev, frzC_c, frzC_n, mask_ev, maskC_c, maskC_n, inB_c, inB_n, Nat.zero_add, Nat.reduceAdd, Nat.reduceBEq, Bool.true_and, Bool.or_self, putAllM_c, putAllM_n, mz, mt]
      refine ⟨fits_of (by simp), fits_of (by simp), fits_of (by simp), fits_of (by simp; omega), ?_⟩
      intro v hv
      rcases List.mem_append.mp hv with hv | hv
      · exact v2 v hv
      · simp only [List.mem_cons, List.not_mem_nil, or_false] at hv
        rcases hv with rfl | rfl
        · exact vrep _ it
        · exact vrep _ iz
    · simp only [wss_nil, wss_one, w_ifs, w_ret, w_retN, w_pass, w_drop, w_sSet, w_sPop, we_var, we_none, we_tru, we_fls, we_int, we_str, we_op, we_neg, we_cmp, we_chain, we_isN, we_notN, we_isT, we_notT, we_not, we_and, we_or, we_ite, we_tup, we_lst, we_ix, we_sl, we_rev, we_bi, we_isi, we_call, we_lc, we_sInt, we_sCnt, wc_no, wc_so, wo_no, wo_so, ws_nil, ws_cons, ws_star, wi_val, wi_rg1, wi_rg2, wi_enum, wi_zip, wi_zips, we_idx, we_rl1, we_rl2, putX_nil, putX_no, wt_turn, O1_some, O2_some, O3_some, O1_ite, asB_b, asI_i, frC_int, frN_int, vals_nil, vals_cons, getV_zero, getV_succ, asgT_n, asgT_t, asgTs_n, asgTs_c, putT_n, putT_t, putTs_n, putTs_c, putAll_n, putAll_c, wipe_n, wipe_c, List.map_cons, List.map_nil, List.set_cons_succ, List.set_cons_zero, Option.bind_some, Option.map_some, Option.map_none, op2_add, op2_addT, op2_addL, op2_sub, op2_mul, op2_fdiv, op2_mod, cm2_lt, cm2_le, cm2_gt, cm2_ge, bi_lenL, bi_lenT, bi_tupL, bi_tupT, bi_lstL, bi_lstT, bi_int, bi_bool, bi_abs, bi_max, bi_min, bi_sum, bi_all, seqOf_l, seqOf_t, bi_sorted, bi_repr, iop_a, iop_s, iop_m, itemsL, itemsT, ty1, ty2, ty3, ty4, ty5, ty6, ty7, ty8, ty9, ty10, isN0, isN1, isN2, isN3, isN4, isN5, decide_eq_true_eq, if_true, Bool.true_or, Bool.or_true, Bool.true_and, Bool.and_true, Bool.false_eq_true, if_false, noL_int, noL_bool, noL_tup, noLs_nil, noLs_cons, pints_map, pbools_map, Option.map_some, Bool.or_self, Bool.and_self, Bool.or_false, Bool.false_or, noLs_ints, ix0, ix1, ix2, frC_bool, frC_tup, frC_lst, biFr_tup, biFr_lst, biFr_int, frN_lst, frN_tup, frN_bool, cut2, slD_t, slD_l, true_and, and_true, frz_ev, frzC_c, frzC_n, mask_ev, maskC_c, maskC_n, inB_c, inB_n, Nat.zero_add, Nat.reduceAdd, Nat.reduceBEq, Bool.true_and, Bool.or_self, putAllM_c, putAllM_n, mz, mt]
      refine ⟨fits_of (by simp), fits_of (by simp), fits_of (by simp), fits_of (by simp; omega), ?_⟩
      intro v hv
      rcases List.mem_append.mp hv with hv | hv
      · exact v2 v hv
      · simp only [List.mem_cons, List.not_mem_nil, or_false] at hv
        rcases hv with rfl | rfl
        · exact vrep _ it
        · exact vrep _ iz
    · rintro ds s hds
      refine ⟨⟨hds, ?_⟩, ⟨hds, ?_⟩⟩
      · exact ⟨_, _, _, _, _, _, _, _, _, _, _, _, _, _, _, _, _, _, _, rfl⟩
      · simp only [wss_nil, wss_one, w_ifs, w_ret, w_retN, w_pass, w_drop, w_sSet, w_sPop, we_var, we_none, we_tru, we_fls, we_int, we_str, we_op, we_neg, we_cmp, we_chain, we_isN, we_notN, we_isT, we_notT, we_not, we_and, we_or, we_ite, we_tup, we_lst, we_ix, we_sl, we_rev, we_bi, we_isi, we_call, we_lc, we_sInt, we_sCnt, wc_no, wc_so, wo_no, wo_so, ws_nil, ws_cons, ws_star, wi_val, wi_rg1, wi_rg2, wi_enum, wi_zip, wi_zips, we_idx, we_rl1, we_rl2, putX_nil, putX_no, wt_turn, O1_some, O2_some, O3_some, O1_ite, asB_b, asI_i, frC_int, frN_int, vals_nil, vals_cons, getV_zero, getV_succ, asgT_n, asgT_t, asgTs_n, asgTs_c, putT_n, putT_t, putTs_n, putTs_c, putAll_n, putAll_c, wipe_n, wipe_c, List.map_cons, List.map_nil, List.set_cons_succ, List.set_cons_zero, Option.bind_some, Option.map_some, Option.map_none, op2_add, op2_addT, op2_addL, op2_sub, op2_mul, op2_fdiv, op2_mod, cm2_lt, cm2_le, cm2_gt, cm2_ge, bi_lenL, bi_lenT, bi_tupL, bi_tupT, bi_lstL, bi_lstT, bi_int, bi_bool, bi_abs, bi_max, bi_min, bi_sum, bi_all, seqOf_l, seqOf_t, bi_sorted, bi_repr, iop_a, iop_s, iop_m, itemsL, itemsT, ty1, ty2, ty3, ty4, ty5, ty6, ty7, ty8, ty9, ty10, isN0, isN1, isN2, isN3, isN4, isN5, decide_eq_true_eq, if_true, Bool.true_or, Bool.or_true, Bool.true_and, Bool.and_true, Bool.false_eq_true, if_false, noL_int, noL_bool, noL_tup, noLs_nil, noLs_cons, pints_map, pbools_map, Option.map_some, Bool.or_self, Bool.and_self, Bool.or_false, Bool.false_or, noLs_ints, ix0, ix1, ix2, frC_bool, frC_tup, frC_lst, biFr_tup, biFr_lst, biFr_int, frN_lst, frN_tup, frN_bool, cut2, slD_t, slD_l, true_and, and_true, frz_ev, frzC_c, frzC_n, mask_ev, maskC_c, maskC_n, inB_c, inB_n, Nat.zero_add, Nat.reduceAdd, Nat.reduceBEq, Bool.true_and, Bool.or_self, putAllM_c, putAllM_n]
        exact ⟨_, _, _, _, _, _, _, _, _, _, _, _, _, _, _, _, _, _, _, rfl⟩
    · clear m3 m4 m5 m6 m7 m13 m14 m15 m17 m18 m19 x2 x9 x10 x11 x12 x16 x20 x21
      rintro v rest ⟨env, s⟩ ⟨hall, m3, m4, m5, m6, m7, m13, m14, m15, m17, m18, m19, x2, x9, x10, x11, x12, x16, x20, x21, he⟩
      simp only at he
      subst he
      have hv := hall v List.mem_cons_self
      have hrest : ∀ v ∈ rest, Val v := fun v h => hall v (List.mem_cons_of_mem _ h)
      simp only [putT_n, O1_some, List.set_cons_succ, List.set_cons_zero]
      refine wss_seq (fun st => ∃ (m3 m4 m5 m6 m7 m13 m14 m15 m17 m18 m19 m20 m21 : Bool) (x2 x9 x10 x11 x12 x16 : Option (D × Bool)), st.env = [none, none, x2, some (eF n rs, m3), some (.int n, m4), some (.str (eF n rs).shown, m5), some (.int mm, m6), some (eRow ms, m7), some (.list ((ends rs ms).map ePair), true), x9, x10, x11, x12, some (eRow hs, m13), some (eRow row, m14), some (.list ([row, List.replicate rs.length 0, ms, ms.map fun x => 0 - x].map eRow), m15), x16, some (.int pl, m17), some (od, m18), some (.list vs, m19), some (v, m20), some (.str v.shown, m21), none, none, none]) (w_asg ?_) ?_
      · simp only [wss_nil, wss_one, w_ifs, w_ret, w_retN, w_pass, w_drop, w_sSet, w_sPop, we_var, we_none, we_tru, we_fls, we_int, we_str, we_op, we_neg, we_cmp, we_chain, we_isN, we_notN, we_isT, we_notT, we_not, we_and, we_or, we_ite, we_tup, we_lst, we_ix, we_sl, we_rev, we_bi, we_isi, we_call, we_lc, we_sInt, we_sCnt, wc_no, wc_so, wo_no, wo_so, ws_nil, ws_cons, ws_star, wi_val, wi_rg1, wi_rg2, wi_enum, wi_zip, wi_zips, we_idx, we_rl1, we_rl2, putX_nil, putX_no, wt_turn, O1_some, O2_some, O3_some, O1_ite, asB_b, asI_i, frC_int, frN_int, vals_nil, vals_cons, getV_zero, getV_succ, asgT_n, asgT_t, asgTs_n, asgTs_c, putT_n, putT_t, putTs_n, putTs_c, putAll_n, putAll_c, wipe_n, wipe_c, List.map_cons, List.map_nil, List.set_cons_succ, List.set_cons_zero, Option.bind_some, Option.map_some, Option.map_none, op2_add, op2_addT, op2_addL, op2_sub, op2_mul, op2_fdiv, op2_mod, cm2_lt, cm2_le, cm2_gt, cm2_ge, bi_lenL, bi_lenT, bi_tupL, bi_tupT, bi_lstL, bi_lstT, bi_int, bi_bool, bi_abs, bi_max, bi_min, bi_sum, bi_all, seqOf_l, seqOf_t, bi_sorted, bi_repr, iop_a, iop_s, iop_m, itemsL, itemsT, ty1, ty2, ty3, ty4, ty5, ty6, ty7, ty8, ty9, ty10, isN0, isN1, isN2, isN3, isN4, isN5, decide_eq_true_eq, if_true, Bool.true_or, Bool.or_true, Bool.true_and, Bool.and_true, Bool.false_eq_true, if_false, noL_int, noL_bool, noL_tup, noLs_nil, noLs_cons, pints_map, pbools_map, Option.map_some, Bool.or_self, Bool.and_self, Bool.or_false, Bool.false_or, noLs_ints, ix0, ix1, ix2, frC_bool, frC_tup, frC_lst, biFr_tup, biFr_lst, biFr_int, frN_lst, frN_tup, frN_bool, cut2, slD_t, slD_l, true_and, and_true]
        exact ⟨hv.1.repr (by omega) (by omega), by first | rfl | (refine ⟨rfl, ?_⟩; exact ⟨_, _, _, _, _, _, _, _, _, _, _, _, _, _, _, _, _, _, _, rfl⟩) | exact ⟨_, _, _, _, _, _, _, _, _, _, _, _, _, _, _, _, _, _, _, rfl⟩⟩
      clear m3 m4 m5 m6 m7 m13 m14 m15 m17 m18 m19 x2 x9 x10 x11 x12 x16 x20 x21
      rintro ⟨env, s⟩ ⟨m3, m4, m5, m6, m7, m13, m14, m15, m17, m18, m19, m20, m21, x2, x9, x10, x11, x12, x16, he⟩
      simp only at he
      subst he
      rw [wss_one]
      have nbl : Nice 0 21 (.bool (marksB rs.length v)) := nice_bool
      simp only [wss_nil, wss_one, w_ifs, w_ret, w_retN, w_pass, w_drop, w_sSet, w_sPop, we_var, we_none, we_tru, we_fls, we_int, we_str, we_op, we_neg, we_cmp, we_chain, we_isN, we_notN, we_isT, we_notT, we_not, we_and, we_or, we_ite, we_tup, we_lst, we_ix, we_sl, we_rev, we_bi, we_isi, we_call, we_lc, we_sInt, we_sCnt, wc_no, wc_so, wo_no, wo_so, ws_nil, ws_cons, ws_star, wi_val, wi_rg1, wi_rg2, wi_enum, wi_zip, wi_zips, we_idx, we_rl1, we_rl2, putX_nil, putX_no, wt_turn, O1_some, O2_some, O3_some, O1_ite, asB_b, asI_i, frC_int, frN_int, vals_nil, vals_cons, getV_zero, getV_succ, asgT_n, asgT_t, asgTs_n, asgTs_c, putT_n, putT_t, putTs_n, putTs_c, putAll_n, putAll_c, wipe_n, wipe_c, List.map_cons, List.map_nil, List.set_cons_succ, List.set_cons_zero, Option.bind_some, Option.map_some, Option.map_none, op2_add, op2_addT, op2_addL, op2_sub, op2_mul, op2_fdiv, op2_mod, cm2_lt, cm2_le, cm2_gt, cm2_ge, bi_lenL, bi_lenT, bi_tupL, bi_tupT, bi_lstL, bi_lstT, bi_int, bi_bool, bi_abs, bi_max, bi_min, bi_sum, bi_all, seqOf_l, seqOf_t, bi_sorted, bi_repr, iop_a, iop_s, iop_m, itemsL, itemsT, ty1, ty2, ty3, ty4, ty5, ty6, ty7, ty8, ty9, ty10, isN0, isN1, isN2, isN3, isN4, isN5, decide_eq_true_eq, if_true, Bool.true_or, Bool.or_true, Bool.true_and, Bool.and_true, Bool.false_eq_true, if_false, noL_int, noL_bool, noL_tup, noLs_nil, noLs_cons, pints_map, pbools_map, Option.map_some, Bool.or_self, Bool.and_self, Bool.or_false, Bool.false_or, noLs_ints, ix0, ix1, ix2, frC_bool, frC_tup, frC_lst, biFr_tup, biFr_lst, biFr_int, frN_lst, frN_tup, frN_bool, cut2, slD_t, slD_l, true_and, and_true]
      refine isArrows hF v (by omega) hv.dueOk ?_
      refine ⟨nbl.repr (by omega) (by omega), ?_⟩
      refine Box.out (lawMarks2 v hmm (by omega) hv.dueOk ?_)
      refine ⟨nbl.repr (by omega) (by omega), ?_⟩
      rw [cm2_neS nbl.pl]
      simp only [wss_nil, wss_one, w_ifs, w_ret, w_retN, w_pass, w_drop, w_sSet, w_sPop, we_var, we_none, we_tru, we_fls, we_int, we_str, we_op, we_neg, we_cmp, we_chain, we_isN, we_notN, we_isT, we_notT, we_not, we_and, we_or, we_ite, we_tup, we_lst, we_ix, we_sl, we_rev, we_bi, we_isi, we_call, we_lc, we_sInt, we_sCnt, wc_no, wc_so, wo_no, wo_so, ws_nil, ws_cons, ws_star, wi_val, wi_rg1, wi_rg2, wi_enum, wi_zip, wi_zips, we_idx, we_rl1, we_rl2, putX_nil, putX_no, wt_turn, O1_some, O2_some, O3_some, O1_ite, asB_b, asI_i, frC_int, frN_int, vals_nil, vals_cons, getV_zero, getV_succ, asgT_n, asgT_t, asgTs_n, asgTs_c, putT_n, putT_t, putTs_n, putTs_c, putAll_n, putAll_c, wipe_n, wipe_c, List.map_cons, List.map_nil, List.set_cons_succ, List.set_cons_zero, Option.bind_some, Option.map_some, Option.map_none, op2_add, op2_addT, op2_addL, op2_sub, op2_mul, op2_fdiv, op2_mod, cm2_lt, cm2_le, cm2_gt, cm2_ge, bi_lenL, bi_lenT, bi_tupL, bi_tupT, bi_lstL, bi_lstT, bi_int, bi_bool, bi_abs, bi_max, bi_min, bi_sum, bi_all, seqOf_l, seqOf_t, bi_sorted, bi_repr, iop_a, iop_s, iop_m, itemsL, itemsT, ty1, ty2, ty3, ty4, ty5, ty6, ty7, ty8, ty9, ty10, isN0, isN1, isN2, isN3, isN4, isN5, decide_eq_true_eq, if_true, Bool.true_or, Bool.or_true, Bool.true_and, Bool.and_true, Bool.false_eq_true, if_false, noL_int, noL_bool, noL_tup, noLs_nil, noLs_cons, pints_map, pbools_map, Option.map_some, Bool.or_self, Bool.and_self, Bool.or_false, Bool.false_or, noLs_ints, ix0, ix1, ix2, frC_bool, frC_tup, frC_lst, biFr_tup, biFr_lst, biFr_int, frN_lst, frN_tup, frN_bool, cut2, slD_t, slD_l, true_and, and_true]
      refine ⟨hv.1.repr (by omega) (by omega), ?_⟩
      rw [cm2_neS hv.1.pl]
      simp only [wss_nil, wss_one, w_ifs, w_ret, w_retN, w_pass, w_drop, w_sSet, w_sPop, we_var, we_none, we_tru, we_fls, we_int, we_str, we_op, we_neg, we_cmp, we_chain, we_isN, we_notN, we_isT, we_notT, we_not, we_and, we_or, we_ite, we_tup, we_lst, we_ix, we_sl, we_rev, we_bi, we_isi, we_call, we_lc, we_sInt, we_sCnt, wc_no, wc_so, wo_no, wo_so, ws_nil, ws_cons, ws_star, wi_val, wi_rg1, wi_rg2, wi_enum, wi_zip, wi_zips, we_idx, we_rl1, we_rl2, putX_nil, putX_no, wt_turn, O1_some, O2_some, O3_some, O1_ite, asB_b, asI_i, frC_int, frN_int, vals_nil, vals_cons, getV_zero, getV_succ, asgT_n, asgT_t, asgTs_n, asgTs_c, putT_n, putT_t, putTs_n, putTs_c, putAll_n, putAll_c, wipe_n, wipe_c, List.map_cons, List.map_nil, List.set_cons_succ, List.set_cons_zero, Option.bind_some, Option.map_some, Option.map_none, op2_add, op2_addT, op2_addL, op2_sub, op2_mul, op2_fdiv, op2_mod, cm2_lt, cm2_le, cm2_gt, cm2_ge, bi_lenL, bi_lenT, bi_tupL, bi_tupT, bi_lstL, bi_lstT, bi_int, bi_bool, bi_abs, bi_max, bi_min, bi_sum, bi_all, seqOf_l, seqOf_t, bi_sorted, bi_repr, iop_a, iop_s, iop_m, itemsL, itemsT, ty1, ty2, ty3, ty4, ty5, ty6, ty7, ty8, ty9, ty10, isN0, isN1, isN2, isN3, isN4, isN5, decide_eq_true_eq, if_true, Bool.true_or, Bool.or_true, Bool.true_and, Bool.and_true, Bool.false_eq_true, if_false, noL_int, noL_bool, noL_tup, noLs_nil, noLs_cons, pints_map, pbools_map, Option.map_some, Bool.or_self, Bool.and_self, Bool.or_false, Bool.false_or, noLs_ints, ix0, ix1, ix2, frC_bool, frC_tup, frC_lst, biFr_tup, biFr_lst, biFr_int, frN_lst, frN_tup, frN_bool, cut2, slD_t, slD_l, true_and, and_true]
      exact ⟨hrest, ⟨_, _, _, _, _, _, _, _, _, _, _, _, _, _, _, _, _, _, _, rfl⟩⟩
    · rintro st ⟨_, h⟩
      exact h
    clear m3 m4 m5 m6 m7 m13 m14 m15 m17 m18 m19 x2 x9 x10 x11 x12 x16 x20 x21
    rintro ⟨env, s⟩ ⟨m3, m4, m5, m6, m7, m13, m14, m15, m17, m18, m19, x2, x9, x10, x11, x12, x16, x20, x21, he⟩
    simp only at he
    subst he
    rw [wss_one]
    simp only [wss_nil, wss_one, w_ifs, w_ret, w_retN, w_pass, w_drop, w_sSet, w_sPop, we_var, we_none, we_tru, we_fls, we_int, we_str, we_op, we_neg, we_cmp, we_chain, we_isN, we_notN, we_isT, we_notT, we_not, we_and, we_or, we_ite, we_tup, we_lst, we_ix, we_sl, we_rev, we_bi, we_isi, we_call, we_lc, we_sInt, we_sCnt, wc_no, wc_so, wo_no, wo_so, ws_nil, ws_cons, ws_star, wi_val, wi_rg1, wi_rg2, wi_enum, wi_zip, wi_zips, we_idx, we_rl1, we_rl2, putX_nil, putX_no, wt_turn, O1_some, O2_some, O3_some, O1_ite, asB_b, asI_i, frC_int, frN_int, vals_nil, vals_cons, getV_zero, getV_succ, asgT_n, asgT_t, asgTs_n, asgTs_c, putT_n, putT_t, putTs_n, putTs_c, putAll_n, putAll_c, wipe_n, wipe_c, List.map_cons, List.map_nil, List.set_cons_succ, List.set_cons_zero, Option.bind_some, Option.map_some, Option.map_none, op2_add, op2_addT, op2_addL, op2_sub, op2_mul, op2_fdiv, op2_mod, cm2_lt, cm2_le, cm2_gt, cm2_ge, bi_lenL, bi_lenT, bi_tupL, bi_tupT, bi_lstL, bi_lstT, bi_int, bi_bool, bi_abs, bi_max, bi_min, bi_sum, bi_all, seqOf_l, seqOf_t, bi_sorted, bi_repr, iop_a, iop_s, iop_m, itemsL, itemsT, ty1, ty2, ty3, ty4, ty5, ty6, ty7, ty8, ty9, ty10, isN0, isN1, isN2, isN3, isN4, isN5, decide_eq_true_eq, if_true, Bool.true_or, Bool.or_true, Bool.true_and, Bool.and_true, Bool.false_eq_true, if_false, noL_int, noL_bool, noL_tup, noLs_nil, noLs_cons, pints_map, pbools_map, Option.map_some, Bool.or_self, Bool.and_self, Bool.or_false, Bool.false_or, noLs_ints, ix0, ix1, ix2, frC_bool, frC_tup, frC_lst, biFr_tup, biFr_lst, biFr_int, frN_lst, frN_tup, frN_bool, cut2, slD_t, slD_l, true_and, and_true]
    refine ⟨eF_rep hF, ?_⟩
    rw [eF_str hF]
    simp only [wss_nil, wss_one, w_ifs, w_ret, w_retN, w_pass, w_drop, w_sSet, w_sPop, we_var, we_none, we_tru, we_fls, we_int, we_str, we_op, we_neg, we_cmp, we_chain, we_isN, we_notN, we_isT, we_notT, we_not, we_and, we_or, we_ite, we_tup, we_lst, we_ix, we_sl, we_rev, we_bi, we_isi, we_call, we_lc, we_sInt, we_sCnt, wc_no, wc_so, wo_no, wo_so, ws_nil, ws_cons, ws_star, wi_val, wi_rg1, wi_rg2, wi_enum, wi_zip, wi_zips, we_idx, we_rl1, we_rl2, putX_nil, putX_no, wt_turn, O1_some, O2_some, O3_some, O1_ite, asB_b, asI_i, frC_int, frN_int, vals_nil, vals_cons, getV_zero, getV_succ, asgT_n, asgT_t, asgTs_n, asgTs_c, putT_n, putT_t, putTs_n, putTs_c, putAll_n, putAll_c, wipe_n, wipe_c, List.map_cons, List.map_nil, List.set_cons_succ, List.set_cons_zero, Option.bind_some, Option.map_some, Option.map_none, op2_add, op2_addT, op2_addL, op2_sub, op2_mul, op2_fdiv, op2_mod, cm2_lt, cm2_le, cm2_gt, cm2_ge, bi_lenL, bi_lenT, bi_tupL, bi_tupT, bi_lstL, bi_lstT, bi_int, bi_bool, bi_abs, bi_max, bi_min, bi_sum, bi_all, seqOf_l, seqOf_t, bi_sorted, bi_repr, iop_a, iop_s, iop_m, itemsL, itemsT, ty1, ty2, ty3, ty4, ty5, ty6, ty7, ty8, ty9, ty10, isN0, isN1, isN2, isN3, isN4, isN5, decide_eq_true_eq, if_true, Bool.true_or, Bool.or_true, Bool.true_and, Bool.and_true, Bool.false_eq_true, if_false, noL_int, noL_bool, noL_tup, noLs_nil, noLs_cons, pints_map, pbools_map, Option.map_some, Bool.or_self, Bool.and_self, Bool.or_false, Bool.false_or, noLs_ints, ix0, ix1, ix2, frC_bool, frC_tup, frC_lst, biFr_tup, biFr_lst, biFr_int, frN_lst, frN_tup, frN_bool, cut2, slD_t, slD_l, true_and, and_true]
    exact ⟨_, _, _, _, _, _, _, _, _, _, _, _, _, _, _, _, _, _, _, _, rfl⟩
  · intro st _
    simp only [wss_nil, wss_one, w_ifs, w_ret, w_retN, w_pass, w_drop, w_sSet, w_sPop, we_var, we_none, we_tru, we_fls, we_int, we_str, we_op, we_neg, we_cmp, we_chain, we_isN, we_notN, we_isT, we_notT, we_not, we_and, we_or, we_ite, we_tup, we_lst, we_ix, we_sl, we_rev, we_bi, we_isi, we_call, we_lc, we_sInt, we_sCnt, wc_no, wc_so, wo_no, wo_so, ws_nil, ws_cons, ws_star, wi_val, wi_rg1, wi_rg2, wi_enum, wi_zip, wi_zips, we_idx, we_rl1, we_rl2, putX_nil, putX_no, wt_turn, O1_some, O2_some, O3_some, O1_ite, asB_b, asI_i, frC_int, frN_int, vals_nil, vals_cons, getV_zero, getV_succ, asgT_n, asgT_t, asgTs_n, asgTs_c, putT_n, putT_t, putTs_n, putTs_c, putAll_n, putAll_c, wipe_n, wipe_c, List.map_cons, List.map_nil, List.set_cons_succ, List.set_cons_zero, Option.bind_some, Option.map_some, Option.map_none, op2_add, op2_addT, op2_addL, op2_sub, op2_mul, op2_fdiv, op2_mod, cm2_lt, cm2_le, cm2_gt, cm2_ge, bi_lenL, bi_lenT, bi_tupL, bi_tupT, bi_lstL, bi_lstT, bi_int, bi_bool, bi_abs, bi_max, bi_min, bi_sum, bi_all, seqOf_l, seqOf_t, bi_sorted, bi_repr, iop_a, iop_s, iop_m, itemsL, itemsT, ty1, ty2, ty3, ty4, ty5, ty6, ty7, ty8, ty9, ty10, isN0, isN1, isN2, isN3, isN4, isN5, decide_eq_true_eq, if_true, Bool.true_or, Bool.or_true, Bool.true_and, Bool.and_true, Bool.false_eq_true, if_false, noL_int, noL_bool, noL_tup, noLs_nil, noLs_cons, pints_map, pbools_map, Option.map_some, Bool.or_self, Bool.and_self, Bool.or_false, Bool.false_or, noLs_ints, ix0, ix1, ix2, frC_bool, frC_tup, frC_lst, biFr_tup, biFr_lst, biFr_int, frN_lst, frN_tup, frN_bool, cut2, slD_t, slD_l, true_and, and_true]
    generalize hn : (PyData.tuple [.int 1, .tuple [.tuple [.int 0, .int 0, .int (-1)]]] : D) = d0
    generalize hm : (PyData.tuple [.int (-3)] : D) = d1
    refine ⟨fits_of (by simp), fits_of (by simp), fits_of (by simp), fits_of (by simp), ?_⟩
    refine Box.out (lastOne (hn.symm.trans eLast0) (hm.symm.trans eLast1) okLast rfl (by simp) ?_)
    refine ⟨fits_of (by simp), ?_⟩
    rw [eLast2]
    rfl
end
theorem pureLaw : ∀ ns : List Int, ns.length ≤ 63 → ∃ st, exs (callK T W (lev + 1)) W lawC ⟨List.replicate lawN.length none, srcOf ns⟩ = some (.rt (.bool true), st) := fun ns _ => law_of (lawTrue (k := 35) ns)

end K58
open PySem PySem.W PySem.Calls PyProof.Rows
theorem PySem.Challenge.cw_signedframes_k58_whole_arrows_and_readin_holds : PySem.Challenge.rw_signedframes_k58_whole_arrows_and_readin.Holds := by
  w_on; o_law
  refine HandSHeadRun.head_any (r := OpenLaw.row PySem.Challenge.rw_signedframes_k58_whole_arrows_and_readin) (q := view (OpenLaw.row PySem.Challenge.rw_signedframes_k58_whole_arrows_and_readin).prog [19]) (H := K58.hk) (ob := K58.ob) (M := 3000) (loose := K58.names) (d := HandSHeadRun.topDef (OpenLaw.row PySem.Challenge.rw_signedframes_k58_whole_arrows_and_readin).prog 19) (kwd := []) K58.ob_eq
    (by kernel_rfl) (fun s => by kernel_rfl) K58.run (by kernel_rfl) (by kernel_rfl) (by kernel_rfl) (by rfl) (by first | assumption | decide +kernel) (by decide +kernel) ⟨rfl, rfl, rfl, rfl, rfl, by decide +kernel⟩ ?hw ?hc
  case hw => w_witness2
  case hc =>
    refine PV.walkG (l := PySem.Challenge.rw_signedframes_k58_whole_arrows_and_readin) (n := 63) (k := K58.lev + 2) (y := ("script" : PySem.Str)) rfl (by decide) (by kernel_rfl) ⟨rfl, by decide, by decide⟩ ?_
    intro w mg fa h Y G hmg0
    obtain ⟨K, KX, c⟩ := Y
    have hmg : mg ("law" : PySem.Str) = some (.ref fa) := by
      have e : (HandSHeadRun.topDef (OpenLaw.row PySem.Challenge.rw_signedframes_k58_whole_arrows_and_readin).prog 19).name = ("law" : PySem.Str) := by kernel_rfl
      rw [← e]
      exact hmg0
    obtain ⟨fdS, FS⟩ := He.SaysD.def_ c 15 (d := K58.ddS) rfl
    obtain ⟨fdL, FL⟩ := He.SaysD.def_ c 16 (d := K58.ddL) rfl
    have e := hmg.symm.trans (He.glo_ok KX G (He.SaysD.fact c 16 (f := .glo "law") rfl))
    cases e
    have bL := L2.FunD.bindsA (ps := ["script"]) FL fun _ _ _ _ _ _ us hl => match us, hl with | [_], _ => rfl
    have bS := L2.FunD.bindsN (ps := ["script"]) FS fun _ _ _ _ _ _ us hl => match us, hl with | [_], _ => rfl
    have gS := He.glo_ok KX G (He.SaysD.fact c 15 (f := .glo "_law_source") rfl)
    exact ⟨K, fdL, PV.spLaw K, KX, fun s v => bL s [v] rfl, fun H a ns hl _ hS => ⟨a, ns, rfl, hl, hS, fun _ => rfl⟩, fun base _ _ => PV.law_fn (rest := (L2.defBody K58.sL).drop 1) (c := K58.lawC) (K58.glOk KX G c) (K58.defsOk KX G c) FL FS bS gS K58.srcScope K58.srcScope2 K58.srcText K58.lawScope K58.lawNames K58.lawBody K58.pureLaw⟩
