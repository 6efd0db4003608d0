import PyProof.Rows.All
import Wide.All
import OpenK.AllK
import Wide.FinOn
import PySem.Str
import KE.KStateDown
import HandS.ForMost
import HandS.Defaults
import HandS.Head2
import HandS.HeadEnd
import HandS.HeadHook2
import HandS.Style
import HandS.WideBits
import HandS.Deep
import HandS.IsInst
import HandS.Zip
import HandS.SortInts
import HandS.ClsMeth
import HandS.Iter
import HandS.Comp
import HandS.List
import HandS.Call
import HandS.More
import HandS.Codes
import PySem.Challenge.RW_nearby_k48_whole_rounds_told
set_option Elab.async false
set_option linter.all false
set_option maxRecDepth 100000
section
namespace Nb
open PySem

/-! ### values: trees; the flag tells an object that only its holder knows (it may be written) -/
inductive W where
  | non | bl (b : Bool) | int (i : Int) | str (x : Str)
  | fn (i : Nat)
  | tup (ws : List W)
  | lst (o : Bool) (ws : List W)
  | dic (o : Bool) (ks vs : List W)
  | ins (o : Bool) (c : Nat) (fs : List Nat) (ws : List W)
  | set (ns : List Int)
  | rng (lo hi : Int)
  | scr (ns : List Int)
mutual
def W.frz : W → W
  | .non => .non | .bl b => .bl b | .int i => .int i | .str x => .str x | .fn i => .fn i
  | .tup ws => .tup (frzs ws)
  | .lst _ ws => .lst false (frzs ws)
  | .dic _ ks vs => .dic false (frzs ks) (frzs vs)
  | .ins _ c fs ws => .ins false c fs (frzs ws)
  | .set ns => .set ns
  | .rng a b => .rng a b
  | .scr ns => .scr ns
def frzs : List W → List W
  | [] => []
  | w :: ws => w.frz :: frzs ws
end
mutual
def W.isF : W → Bool
  | .non => true | .bl _ => true | .int _ => true | .str _ => true | .fn _ => true
  | .tup ws => isFs ws
  | .lst o ws => !o && isFs ws
  | .dic o ks vs => !o && (isFs ks && isFs vs)
  | .ins o _ _ ws => !o && isFs ws
  | .set _ => true
  | .rng _ _ => true
  | .scr _ => true
def isFs : List W → Bool
  | [] => true
  | w :: ws => w.isF && isFs ws
end
mutual
def W.ok : Nat → W → Bool
  | _, .non => true | _, .bl _ => true | _, .int _ => true | _, .str x => x.cps.all (· < 0x110000)
  | n + 1, .tup ws => oks n ws
  | n + 1, .lst _ ws => oks n ws
  | _, _ => false
def oks : Nat → List W → Bool
  | _, [] => true
  | n, w :: ws => w.ok n && oks n ws
end
mutual
def W.eqv : W → W → Bool
  | .non, .non => true
  | .bl a, .bl b => a == b
  | .bl a, .int j => (if a then 1 else 0) == j
  | .int i, .bl b => i == (if b then 1 else 0)
  | .int i, .int j => i == j
  | .str x, .str y => decide (x = y)
  | .lst _ xs, .lst _ ys => eqvs xs ys
  | .tup xs, .tup ys => eqvs xs ys
  | _, _ => false
def eqvs : List W → List W → Bool
  | [], [] => true
  | x :: xs, y :: ys => x.eqv y && eqvs xs ys
  | _, _ => false
end

def W.int? : W → Option Int
  | .int i => some i
  | _ => none
def ints? : List W → Option (List Int)
  | [] => some []
  | w :: ws => do
    let i ← w.int?
    let is ← ints? ws
    some (i :: is)
def W.bl? : W → Option Bool
  | .bl i => some i
  | _ => none
def bls? : List W → Option (List Bool)
  | [] => some []
  | w :: ws => do
    let i ← w.bl?
    let is ← bls? ws
    some (i :: is)
/-- the items of a list or tuple -/
def W.seq? : W → Option (List W)
  | .lst _ ws => some ws
  | .tup ws => some ws
  | .scr ns => some (ns.map .int)
  | _ => none
def guardO {α : Type} (b : Bool) (x : Option α) : Option α := match b with
  | true => x
  | false => none

/-! ### operations on values -/
theorem frzs_len : ∀ ws : List W, (frzs ws).length = ws.length
  | [] => rfl
  | w :: ws => by simp [frzs, frzs_len ws]
inductive O where
  | add | sub | mul | fdiv | mod | pow | shl | shr | band | neg
  | eq | ne | lt | le | gt | ge | isN | notN | isB | notB | inn | ninn
  | idx | fld (f : Nat) | len | lens | min2 | max2 | minl | maxl | sum | all | any | int | abs | bitl | isi (t : Nat)
  | find | get1 | get2
  -- those that make a new object
  | tup | lst | list | tuple | sett | sorted | rng1 | rng2 | slu | sll | sllu | dic0

def fit64 (i : Int) : Bool := decide (-(2 ^ 64) < i) && decide (i < 2 ^ 64)
/-- the place of an index -/
def ixP (n : Nat) (i : Int) : Option Nat :=
  if 0 ≤ i then (if i < n then some i.toNat else none) else (if 0 ≤ i + n then some (i + n).toNat else none)
/-- the place of a key -/
def keyAt : List W → W → Option Nat
  | [], _ => none
  | x :: xs, k => if x.eqv k then some 0 else (keyAt xs k).map (· + 1)
/-- isinstance by the type's number: 0 bool, 1 int, 2 str, 3 tuple, 4 list, 5 dict -/
def W.isT : W → Nat → Option Bool
  | .non, _ => some false
  | .bl _, t => some (t == 0 || t == 1)
  | .int _, t => some (t == 1)
  | .str _, t => some (t == 2)
  | .tup _, t => some (t == 3)
  | .lst _ _, t => some (t == 4)
  | _, _ => none
def memW (x : W) : List W → Bool
  | [] => false
  | y :: ys => y.eqv x || memW x ys
def foldMin : Int → List Int → Int
  | m, [] => m
  | m, x :: xs => foldMin (if x < m then x else m) xs
def foldMax : Int → List Int → Int
  | m, [] => m
  | m, x :: xs => foldMax (if m < x then x else m) xs
def findW (x : W) : List W → Option Nat
  | [] => none
  | y :: ys => if y.eqv x then some 0 else (findW x ys).map (· + 1)
def ii (f : Int → Int → Option W) : List W → Option W
  | [.int i, .int j] => f i j
  | _ => none
def i1 (f : Int → Option W) : List W → Option W
  | [.int i] => f i
  | _ => none
def w1 (f : W → Option W) : List W → Option W
  | [x] => f x
  | _ => none
def w2 (f : W → W → Option W) : List W → Option W
  | [x, y] => f x y
  | _ => none
def isNon : W → Bool
  | .non => true
  | _ => false
def sizeW : W → Option Nat
  | .lst _ ws => some ws.length
  | .tup ws => some ws.length
  | .scr ns => some ns.length
  | _ => none
def idxW (x : W) : W → Option W
  | .int i => match x.seq? with
    | some ys => match ixP ys.length i with
      | some k => ys[k]?
      | none => none
    | none => none
  | _ => none
def fldW (f : Nat) : W → Option W
  | .ins _ _ fs ws => match fs.idxOf? f with
    | some k => ws[k]?
    | none => none
  | _ => none
def intsW (x : W) : Option (List Int) := match x with
  | .lst _ ws => ints? ws
  | .scr ns => some ns
  | _ => none
def hdMin : List Int → Option W
  | [] => none
  | i :: r => some (.int (foldMin i r))
def hdMax : List Int → Option W
  | [] => none
  | i :: r => some (.int (foldMax i r))
def intW : W → Option W
  | .int i => some (.int i)
  | .bl b => some (.int (if b then 1 else 0))
  | _ => none
def bitLen (n : Nat) : Nat := if n = 0 then 0 else Nat.log2 n + 1
def blsW : W → Option (List Bool)
  | .lst _ ws => bls? ws
  | _ => none
/-- operations whose answer is no new object -/
def opF : O → List W → Option W
  | .add => ii fun i j => some (.int (i + j))
  | .sub => ii fun i j => some (.int (i - j))
  | .mul => ii fun i j => guardO (fit64 i || fit64 j) (some (.int (i * j)))
  | .fdiv => ii fun i j => guardO (decide (0 < j) && decide (j < 1073741824)) (some (.int (i / j)))
  | .mod => ii fun i j => guardO (decide (0 < j)) (some (.int (i % j)))
  | .pow => ii fun i j => guardO (decide (0 ≤ j) && (decide (j ≤ 1000000) && decide (i.natAbs < 2 ^ 64))) (some (.int (i ^ j.toNat)))
  | .shl => ii fun i j => guardO (decide (0 ≤ j) && (decide (j ≤ 1000000) && decide (i.natAbs < 2 ^ 64))) (some (.int (i * 2 ^ j.toNat)))
  | .shr => ii fun i j => guardO (decide (0 ≤ j)) (some (.int (i / 2 ^ j.toNat)))
  | .neg => i1 fun i => some (.int (-i))
  | .eq => w2 fun x y => guardO (x.ok 60 && y.ok 60) (some (.bl (x.eqv y)))
  | .ne => w2 fun x y => guardO (x.ok 60 && y.ok 60) (some (.bl (!x.eqv y)))
  | .lt => ii fun i j => some (.bl (decide (i < j)))
  | .le => ii fun i j => some (.bl (decide (i ≤ j)))
  | .gt => ii fun i j => some (.bl (decide (j < i)))
  | .ge => ii fun i j => some (.bl (decide (j ≤ i)))
  | .isN => w2 fun x y => guardO (isNon y) (some (.bl (isNon x)))
  | .notN => w2 fun x y => guardO (isNon y) (some (.bl (!isNon x)))
  | .isB => w2 fun x y => match x, y with
    | .bl a, .bl b => some (.bl (decide (a = b)))
    | _, _ => none
  | .notB => w2 fun x y => match x, y with
    | .bl a, .bl b => some (.bl (!decide (a = b)))
    | _, _ => none
  | .inn => w2 fun x y => match y with
    | .lst _ ys => guardO (x.ok 60 && oks 60 ys) (some (.bl (memW x ys)))
    | .tup ys => guardO (x.ok 0 && oks 0 ys) (some (.bl (memW x ys)))
    | _ => none
  | .ninn => w2 fun x y => match y with
    | .lst _ ys => guardO (x.ok 60 && oks 60 ys) (some (.bl (!memW x ys)))
    | .tup ys => guardO (x.ok 0 && oks 0 ys) (some (.bl (!memW x ys)))
    | _ => none
  | .idx => w2 idxW
  | .fld f => w1 (fldW f)
  | .len => w1 fun x => (sizeW x).map fun n => .int n
  | .lens => w1 fun x => match intsW x with
    | some is => guardO (decide is.Nodup && decide (is.length ≤ 4000)) (some (.int is.length))
    | none => none
  | .min2 => ii fun i j => some (.int (if j < i then j else i))
  | .max2 => ii fun i j => some (.int (if i < j then j else i))
  | .minl => w1 fun x => (intsW x).bind hdMin
  | .maxl => w1 fun x => (intsW x).bind hdMax
  | .sum => w1 fun x => (intsW x).map fun is => .int is.sum
  | .all => w1 fun x => (blsW x).map fun bs => .bl (bs.all id)
  | .any => w1 fun x => (blsW x).map fun bs => .bl (bs.any id)
  | .int => w1 intW
  | .abs => i1 fun i => some (.int (if i < 0 then -i else i))
  | .bitl => i1 fun i => some (.int (bitLen i.natAbs))
  | .isi t => w1 fun x => (x.isT t).map .bl
  | _ => fun _ => none
def catW : W → W → Option W
  | .lst _ xs, .lst _ ys => guardO (decide (xs.length + ys.length ≤ 1000000)) (some (.lst true (xs ++ ys)))
  | .tup (x :: xs), .tup (y :: ys) => guardO (decide (xs.length + ys.length ≤ 1000000)) (some (.tup (x :: xs ++ y :: ys)))
  | _, _ => none
def repW : W → W → Option W
  | .lst _ xs, .int k => guardO (decide (-1000000 < k) && (decide (k < 1000000) && decide (xs.length * k.toNat ≤ 1000000))) (some (.lst true (List.replicate k.toNat xs).flatten))
  | _, _ => none
def listW : W → Option W
  | .lst _ xs => some (.lst true xs)
  | .tup xs => some (.lst true xs)
  | _ => none
def tupleW : W → Option W
  | .lst _ xs => some (.tup xs)
  | .tup xs => some (.tup xs)
  | _ => none
def insI (x : Int) : List Int → List Int
  | [] => [x]
  | y :: ys => if x ≤ y then x :: y :: ys else y :: insI x ys
def sortI : List Int → List Int
  | [] => []
  | x :: xs => insI x (sortI xs)
def slW (up : Bool) : W → W → Option W
  | .lst _ xs, .int k => guardO (decide (0 ≤ k)) (some (.lst true (if up then xs.take k.toNat else xs.drop k.toNat)))
  | _, _ => none
/-- operations that make a new object, of values that nobody else may write -/
def opM : O → List W → Option W
  | .add => w2 catW
  | .mul => w2 repW
  | .list => w1 listW
  | .tuple => w1 tupleW
  | .sorted => w1 fun x => (intsW x).map fun is => .lst true ((sortI is).map .int)
  | .slu => w2 (slW true)
  | .sll => w2 (slW false)
  | _ => fun _ => none
/-- the value of an operation over values that are given away -/
def opE (o : O) (ws : List W) : Option W := match opF o (frzs ws) with
  | some w => some w
  | none => opM o (frzs ws)
/-- a display -/
def opD : O → List W → Option W
  | .tup, ws => guardO (decide (ws.length ≤ 1000)) (some (.tup (frzs ws)))
  | .lst, ws => guardO (decide (ws.length ≤ 1000)) (some (.lst true ws))
  | _, _ => none

/-! ### the text -/
abbrev Env := List (Option W)
def get (env : Env) (i : Nat) : Option W := match env[i]? with
  | some (some w) => some w
  | _ => none
/-- pure expressions: nothing is made, nothing changes -/
inductive P where
  | peek (i : Nat) | cst (w : W) | glb (n : Nat) (i : Int)
  | un (o : O) (a : P) | bi (o : O) (a b : P)
  | and_ (a b : P) | or_ (a b : P) | not_ (a : P) | ife (c a b : P) | chn (o o' : O) (a b c : P)
def evP (env : Env) : P → Option W
  | .peek i => get env i
  | .cst w => some w
  | .glb _ i => some (.int i)
  | .un o a => match evP env a with
    | some x => opF o [x]
    | none => none
  | .bi o a b => match evP env a, evP env b with
    | some x, some y => opF o [x, y]
    | _, _ => none
  | .and_ a b => match evP env a with
    | some (.bl true) => evP env b
    | some (.bl false) => some (.bl false)
    | _ => none
  | .or_ a b => match evP env a with
    | some (.bl true) => some (.bl true)
    | some (.bl false) => evP env b
    | _ => none
  | .not_ a => match evP env a with
    | some (.bl b) => some (.bl !b)
    | _ => none
  | .ife c a b => match evP env c with
    | some (.bl true) => evP env a
    | some (.bl false) => evP env b
    | _ => none
  | .chn o o' a b c => match evP env a, evP env b with
    | some x, some y => match opF o [x, y] with
      | some (.bl true) => match evP env c with
        | some z => opF o' [y, z]
        | _ => none
      | some (.bl false) => some (.bl false)
      | _ => none
    | _, _ => none
/-- targets -/
inductive G where
  | var (i : Nat) | tup (gs : G) | nil | cons (g r : G)
/-- what a loop walks -/
inductive K where
  | seq | rng1 | rng2 | enum | rev
def items : K → List W → Option (List W)
  | .seq, [x] => match x with
    | .lst _ ws => some ws
    | .tup ws => some ws
    | .scr ns => some (ns.map .int)
    | _ => none
  | .rng1, [.int n] => guardO (decide (-1000000 < n) && decide (n < 1000000)) (some ((List.range n.toNat).map fun (i : Nat) => W.int (0 + (i : Int))))
  | .rng2, [.int a, .int b] => guardO (decide (-1000000 < a) && (decide (a < 1000000) && (decide (-1000000 < b) && decide (b < 1000000)))) (some ((List.range (b - a).toNat).map fun (i : Nat) => W.int (a + (i : Int))))
  | .enum, [.lst _ ws] => some (ws.zipIdx.map fun p => .tup [.int p.2, p.1])
  | .rev, [.lst _ ws] => some ws.reverse
  | _, _ => none
/-- values bound to targets; slots below n are fixed -/
def asg (n : Nat) : G → List W → Env → Option Env
  | .var i, [w], env => guardO (decide (n ≤ i) && decide (i < env.length)) (some (env.set i (some w)))
  | .tup gs, [.tup ws], env => asg n gs ws env
  | .nil, [], env => some env
  | .cons g r, w :: ws, env => match asg n g [w] env with
    | some env1 => asg n r ws env1
    | none => none
  | _, _, _ => none
inductive E where
  | pv (p : P) | var (i : Nat)
  | un (o : O) (a : E) | bi (o : O) (a b : E) | ds (o : O) (as : E) | nil | cons (a r : E)
  | and_ (a b : E) | or_ (a b : E) | not_ (a : E) | ife (c a b : E)
  | cal (f : Nat) (as : E) | cab (f i : Nat) (as : E) | mtv (m : Nat) (a as : E) | mtb (m i : Nat) (as : E) | mak (c : Nat) (as : E) | sup (c : Nat) (as : E)
  | lcp (k : K) (own : List Nat) (g : G) (it c a : E) | yes
/-- an object's class, a method's number: the def -/
structure Tab where
  meth : Nat → Nat → Option Nat
  init : Nat → Option Nat
  fld : Nat → Nat → Bool
  sup : Nat → Option Nat
  fuel : Nat
abbrev Cal := Nat → List W → Option (W × List W)
def wipeE (env : Env) : List Nat → Env
  | [] => env
  | v :: vs => (wipeE env vs).set v none
def keepF : Option W → Option W
  | some w => guardO w.isF (some w)
  | none => none
def backE (env0 env : Env) : List Nat → Env
  | [] => env
  | v :: vs => (backE env0 env vs).set v (keepF (get env0 v))
def allF : List W → Bool := isFs
section
variable (T : Tab) (call make : Cal) (n : Nat)
/-- a list comprehension's turns -/
def compL (bind : W → Env → Option Env) (test elt : Env → Option (W × Env)) (own : List Nat) : List W → Env → List W → Option (List W × Env)
  | [], env, acc => some (acc, env)
  | x :: xs, env, acc => match bind x env with
    | some env1 => match test env1 with
      | some (.bl true, env2) => match elt env2 with
        | some (w, env3) => compL bind test elt own xs (wipeE env3 own) (acc ++ [w])
        | none => none
      | some (.bl false, env2) => compL bind test elt own xs (wipeE env2 own) acc
      | _ => none
    | none => none
/-- a call whose first argument is lent from slot i -/
def lend (r : Option (W × List W)) (i : Nat) (env : Env) : Option (W × Env) := match r with
  | some (w, [w0]) => some (w, env.set i (some w0))
  | _ => none
mutual
def evE : E → Env → Option (W × Env)
  | .pv p, env => match evP env p with
    | some w => guardO w.isF (some (w, env))
    | none => none
  | .var i, env => match get env i with
    | some w => match w.isF with
      | true => some (w, env)
      | false => some (w.frz, env.set i (some w.frz))
    | none => none
  | .un o a, env => match evE a env with
    | some (x, env1) => match opE o [x] with
      | some w => some (w, env1)
      | none => none
    | none => none
  | .bi o a b, env => match evE a env with
    | some (x, env1) => match evE b env1 with
      | some (y, env2) => match opE o [x, y] with
        | some w => some (w, env2)
        | none => none
      | none => none
    | none => none
  | .ds o as, env => match evL as env with
    | some (ws, env1) => match opD o ws with
      | some w => some (w, env1)
      | none => none
    | none => none
  | .and_ a b, env => match evE a env with
    | some (.bl true, env1) => evE b env1
    | some (.bl false, env1) => some (.bl false, env1)
    | _ => none
  | .or_ a b, env => match evE a env with
    | some (.bl true, env1) => some (.bl true, env1)
    | some (.bl false, env1) => evE b env1
    | _ => none
  | .not_ a, env => match evE a env with
    | some (.bl b, env1) => some (.bl !b, env1)
    | _ => none
  | .ife c a b, env => match evE c env with
    | some (.bl true, env1) => evE a env1
    | some (.bl false, env1) => evE b env1
    | _ => none
  | .cal f as, env => match evL as env with
    | some (ws, env1) => match call f (frzs ws) with
      | some (w, _) => some (w, env1)
      | none => none
    | none => none
  | .cab f i as, env => match get env i with
    | some _ => match evL as env with
      | some (ws, env1) => match get env1 i with
        | some w => lend (call f (w :: frzs ws)) i env1
        | none => none
      | none => none
    | none => none
  | .mtv m a as, env => match evE a env with
    | some (o, env1) => match evL as env1 with
      | some (ws, env2) => match o.frz with
        | .ins p c fs us => match T.meth c m with
          | some f => match call f (.ins p c fs us :: frzs ws) with
            | some (w, _) => some (w, env2)
            | none => none
          | none => none
        | _ => none
      | none => none
    | none => none
  | .mtb m i as, env => match get env i with
    | some (.ins _ c _ _) => match T.meth c m with
      | some f => match evL as env with
        | some (ws, env1) => match get env1 i with
          | some w => lend (call f (w :: frzs ws)) i env1
          | none => none
        | none => none
      | none => none
    | _ => none
  | .mak c as, env => match evL as env with
    | some (ws, env1) => match T.init c with
      | some f => match make f (.ins true c [] [] :: frzs ws) with
        | some (.non, [w]) => some (w, env1)
        | _ => none
      | none => none
    | none => none
  | .sup c as, env => match get env 0 with
    | some _ => match evL as env with
      | some (ws, env1) => match get env1 0 with
        | some w => match T.sup c with
          | some f => lend (call f (w :: frzs ws)) 0 env1
          | none => none
        | none => none
      | none => none
    | none => none
  | .lcp k own g it c a, env => match evL it env with
    | some (ws, env1) => match items k (frzs ws) with
      | some xs => match decide (xs.length ≤ 1000000) with
        | true => match compL (fun x e => asg 0 g [x] e) (evE c) (evE a) own xs (wipeE env1 own) [] with
          | some (acc, env2) => some (.lst true acc, backE env1 env2 own)
          | none => none
        | false => none
      | none => none
    | none => none
  | .yes, env => some (.bl true, env)
  | .nil, _ => none
  | .cons _ _, _ => none
def evL : E → Env → Option (List W × Env)
  | .nil, env => some ([], env)
  | .cons a r, env => match evE a env with
    | some (w, env1) => match evL r env1 with
      | some (ws, env2) => some (w :: ws, env2)
      | none => none
    | none => none
  | _, _ => none
end
end
/-- a place within a value -/
inductive Ac where
  | ix (k : W) | fd (f : Nat)
inductive Pa where
  | root | ix (b : Pa) (p : P) | fd (b : Pa) (f : Nat)
def evPa (env : Env) : Pa → Option (List Ac)
  | .root => some []
  | .ix b p => match evPa env b, evP env p with
    | some l, some w => some (l ++ [.ix w])
    | _, _ => none
  | .fd b f => match evPa env b with
    | some l => some (l ++ [.fd f])
    | _ => none
/-- the object at a place is turned; all on the way there are the holder's own -/
def updP (g : W → Option W) : List Ac → W → Option W
  | [], w => g w
  | .ix (.int i) :: r, .lst true ws => match ixP ws.length i with
    | some j => match ws[j]? with
      | some x => match updP g r x with
        | some y => some (.lst true (ws.set j y))
        | none => none
      | none => none
    | none => none
  | .fd f :: r, .ins true c fs ws => match fs.idxOf? f with
    | some j => match ws[j]? with
      | some x => match updP g r x with
        | some y => some (.ins true c fs (ws.set j y))
        | none => none
      | none => none
    | none => none
  | _, _ => none
/-- what changes an object: its new form -/
inductive M where
  | append | insert | seti | setf (f : Nat)
def mutF (ok : Nat → Nat → Bool) : M → List W → W → Option W
  | .append, [x], .lst true ws => guardO (decide (ws.length < 1000000)) (some (.lst true (ws ++ [x])))
  | .insert, [.int i, x], .lst true ws => guardO (decide (0 ≤ i) && (decide (i < 1000000) && decide (ws.length < 1000000))) (some (.lst true (ws.take i.toNat ++ ([x] ++ ws.drop i.toNat))))
  | .seti, [.int i, x], .lst true ws => match ixP ws.length i with
    | some j => some (.lst true (ws.set j x))
    | none => none
  | .setf f, [x], .ins true c fs ws => guardO (ok c f && decide (fs.length < 900)) (match fs.idxOf? f with
    | some j => some (.ins true c fs (ws.set j x))
    | none => some (.ins true c (fs ++ [f]) (ws ++ [x])))
  | _, _, _ => none
/-- what stands at a place -/
def subP : List Ac → W → Option W
  | [], w => some w
  | .ix (.int i) :: r, .lst true ws => match ixP ws.length i with
    | some j => match ws[j]? with
      | some x => subP r x
      | none => none
    | none => none
  | .fd f :: r, .ins true _ fs ws => match fs.idxOf? f with
    | some j => match ws[j]? with
      | some x => subP r x
      | none => none
    | none => none
  | _, _ => none
inductive S where
  | pass | brk | cont | stuck | expr (e : E) | asg (g : G) (e : E) | ret (e : E) | iff (c : E) (a b : S) | whl (c : E) (b : S) | for_ (k : K) (g : G) (it : E) (b : S)
  | aug (o : O) (i : Nat) (e : E)
  | mut (m : M) (i : Nat) (pa : Pa) (as : E)
  | seti (i : Nat) (pa : Pa) (k : P) (e : E) | setf (i : Nat) (pa : Pa) (f : Nat) (e : E)
  | nil | cons (a r : S)
inductive Fl where
  | next | ret (w : W) | brk | cont
abbrev Rs := Option (Fl × Env)
def loopF (bind : W → Env → Option Env) (body : Env → Rs) : List W → Env → Rs
  | [], env => some (.next, env)
  | x :: xs, env => match bind x env with
    | some env1 => match body env1 with
      | some (.next, env2) => loopF bind body xs env2
      | some (.cont, env2) => loopF bind body xs env2
      | some (.brk, env2) => some (.next, env2)
      | some (.ret w, env2) => some (.ret w, env2)
      | none => none
    | none => none
def loopW (test : Env → Option (W × Env)) (body : Env → Rs) : Nat → Env → Rs
  | 0, _ => none
  | m + 1, env => match test env with
    | some (.bl true, env1) => match body env1 with
      | some (.next, env2) => loopW test body m env2
      | some (.cont, env2) => loopW test body m env2
      | some (.brk, env2) => some (.next, env2)
      | some (.ret w, env2) => some (.ret w, env2)
      | none => none
    | some (.bl false, env1) => some (.next, env1)
    | _ => none
section
variable (T : Tab) (call make : Cal) (n : Nat)
/-- may the code write what slot i holds -/
def mut1 (m : M) (ws : List W) (l : List Ac) (i : Nat) (env : Env) : Rs := match get env i with
  | some w => match updP (mutF T.fld m ws) l w with
    | some w1 => some (.next, env.set i (some w1))
    | none => none
  | none => none
def evS : S → Env → Rs
  | .pass, env => some (.next, env)
  | .brk, env => some (.brk, env)
  | .cont, env => some (.cont, env)
  | .stuck, _ => none
  | .expr e, env => match evE T call make e env with
    | some (_, env1) => some (.next, env1)
    | none => none
  | .asg g e, env => match evE T call make e env with
    | some (w, env1) => (asg n g [w] env1).map fun env2 => (.next, env2)
    | none => none
  | .ret e, env => match evE T call make e env with
    | some (w, env1) => some (.ret w, env1)
    | none => none
  | .iff c a b, env => match evE T call make c env with
    | some (.bl true, env1) => evS a env1
    | some (.bl false, env1) => evS b env1
    | _ => none
  | .whl c b, env => loopW (evE T call make c) (evS b) T.fuel env
  | .for_ k g it b, env => match evL T call make it env with
    | some (ws, env1) => match items k (frzs ws) with
      | some xs => loopF (fun x e => asg n g [x] e) (evS b) xs env1
      | none => none
    | none => none
  | .aug o i e, env => match get env i with
    | some _ => match evE T call make e env with
      | some (w, env1) => match get env1 i with
        | some x => match opF o [x, w.frz] with
          | some y => (asg n (.var i) [y] env1).map fun env2 => (.next, env2)
          | none => none
        | none => none
      | none => none
    | none => none
  | .mut m i pa as, env => match evPa env pa, get env i with
    | some l, some w0 => match subP l w0 with
      | some (.lst _ _) => match evL T call make as env with
        | some (ws, env1) => mut1 T m ws l i env1
        | none => none
      | _ => none
    | _, _ => none
  | .seti i pa k e, env => match evE T call make e env with
    | some (x, env1) => match evPa env1 pa, evP env1 k with
      | some l, some kw => mut1 T .seti [kw, x] l i env1
      | _, _ => none
    | none => none
  | .setf i pa f e, env => match evE T call make e env with
    | some (x, env1) => match evPa env1 pa with
      | some l => mut1 T (.setf f) [x] l i env1
      | none => none
    | none => none
  | .nil, env => some (.next, env)
  | .cons a r, env => match evS a env with
    | some (.next, env1) => evS r env1
    | x => x
end
/-- a def: how many parameters, how many of them (at its head) may be lent, how many names -/
structure Def where
  np : Nat
  nb : Nat
  ns : Nat
  body : S
def lent : Nat → Env → Option (List W)
  | 0, _ => some []
  | k + 1, some w :: r => (lent k r).map fun l => w :: l
  | _, _ => none
def runD (T : Tab) (call make : Cal) (d : Def) (ws : List W) : Option (W × List W) :=
  match decide (ws.length = d.np) with
  | true => match evS T call make d.nb d.body (ws.map some ++ List.replicate (d.ns - d.np) none) with
    | some (.ret w, env) => (lent d.nb env).map fun l => (w, l)
    | some (.next, env) => (lent d.nb env).map fun l => (.non, l)
    | _ => none
  | false => none
def run (T : Tab) (ds : Nat → Option Def) : Nat → Cal
  | 0, _, _ => none
  | k + 1, i, ws => match ds i with
    | some d => runD T (run T ds k) (match k with | 0 => fun _ _ => none | j + 1 => run T ds j) d ws
    | none => none
end Nb
end
section
set_option maxRecDepth 100000
set_option maxHeartbeats 2000000
namespace Nb
open PySem PySem.Spec PyProof.Rows L2
/-- a fact of the head: one of He's; two classes share a method -/
inductive Fb where
  | fa (f : He.Fa)
  | same (x m y m' : Str)
  | cfn (x m : Str)
def Fb.ok (K : PySem.W.Frag) : Fb → Bool
  | .fa f => f.ok K
  | .same x m y m' => decide (He.ma K (He.ga K x) m = He.ma K (He.ga K y) m')
  | .cfn x m => PySem.W.readsIn K (He.ga K x) (.type "type") && (decide (PySem.W.specialIn K (.ref (He.ga K x)) "__getattribute__" = some (some (.builtin "type.__getattribute__"))) && (match PySem.W.findCls K (.ref (He.ga K x)) (.type "type") m with
    | some (.val u) => decide (u = .ref (He.ma K (He.ga K x) m))
    | _ => false))
abbrev AlB : Type := Bool × List He.FnW
def obsB (fa : List Fb) (fn : List He.DefD) (K : PySem.W.Frag) : AlB := ((fa.all fun f => f.ok K) && fn.all fun d => d.ok K, fn.map fun d => He.fnW K d.at_)
def valB (fn : List He.DefD) : AlB := (true, fn.map He.DefD.val)
def SaysB (fa : List Fb) (fn : List He.DefD) (K : PySem.W.Frag) : Prop := obsB fa fn K = valB fn
/-- the objects up to n, written out -/
def getF (g : Addr → Option Obj) : Nat → PySem.W.Frag
  | 0 => []
  | n + 1 => match g n with
    | some o => (n, o) :: getF g n
    | none => getF g n
theorem getF_at {g : Addr → Option Obj} {a : Addr} {o : Obj} : ∀ n : Nat, (getF g n).lookup a = some o → g a = some o
  | 0, e => nomatch (show (none : Option Obj) = some o from e)
  | n + 1, e => by
    unfold getF at e
    cases hb : g n with
    | none =>
      rw [hb] at e
      exact getF_at n e
    | some ob =>
      rw [hb] at e
      have e2 : (match a == n with | true => some ob | false => (getF g n).lookup a) = some o := e
      cases q : (a == n) with
      | true =>
        rw [q] at e2
        rw [beq_iff_eq.mp q, hb, Option.some.inj e2]
      | false =>
        rw [q] at e2
        exact getF_at n e2
/-- handed on as a written list -/
def forceF {α : Type} : List (Addr × Obj) → PySem.W.Frag → (PySem.W.Frag → α) → α
  | [], acc, k => k acc
  | (a, o) :: r, acc, k => forceF r ((a, o) :: acc) k
theorem forceF_eq {α : Type} : ∀ (l acc : PySem.W.Frag) (k : PySem.W.Frag → α), forceF l acc k = k (l.reverse ++ acc)
  | [], acc, k => rfl
  | (a, o) :: r, acc, k => by
    show forceF r ((a, o) :: acc) k = _
    rw [forceF_eq r]
    simp
theorem mem_at {g : Addr → Option Obj} : ∀ (n : Nat) {p : Addr × Obj}, p ∈ getF g n → g p.1 = some p.2
  | 0, _, h => nomatch h
  | n + 1, p, h => by
    unfold getF at h
    cases hb : g n with
    | none =>
      rw [hb] at h
      exact mem_at n h
    | some ob =>
      rw [hb] at h
      rcases List.mem_cons.mp h with rfl | h
      · exact hb
      · exact mem_at n h
theorem lookup_mem {a : Addr} {o : Obj} : ∀ {l : PySem.W.Frag}, l.lookup a = some o → (a, o) ∈ l
  | (b, u) :: r, h => by
    rw [List.lookup_cons] at h
    cases q : (a == b) with
    | true =>
      rw [q] at h
      cases h
      rw [beq_iff_eq.mp q]
      exact List.mem_cons_self
    | false =>
      rw [q] at h
      exact List.mem_cons_of_mem _ (lookup_mem h)
def obsBG (n : Nat) (fa : List Fb) (fn : List He.DefD) (g : Addr → Option Obj) : AlB := forceF (getF g n) [] (obsB fa fn)
def hookB (n : Nat) (fa : List Fb) (fn : List He.DefD) : PySem.W.Hook where
  α := AlB
  obs := fun s => obsBG n fa fn s.heap.get?
  val := fun _ => valB fn
  says := fun _ h => ∃ K : PySem.W.Frag, K.In h ∧ SaysB fa fn K
  of := fun _ s e => by
    have e2 : forceF (getF s.heap.get? n) [] (obsB fa fn) = valB fn := e
    rw [forceF_eq] at e2
    refine ⟨_, fun a o h => ?_, e2⟩
    have m := lookup_mem h
    rw [List.append_nil] at m
    exact mem_at n (p := (a, o)) (List.mem_reverse.mp m)
  keeps := fun _ _ _ ⟨K, hK, c⟩ k => ⟨K, PySem.W.Frag.In.keeps hK k, c⟩
theorem obsBG_eq {n : Nat} {fa : List Fb} {fn : List He.DefD} {g : Addr → Option Obj} {s : Shared} (h : ∀ a, g a = s.heap.get? a) : obsBG n fa fn g = (hookB n fa fn).obs s := by
  have e : g = s.heap.get? := funext h
  rw [e] <;> rfl
theorem SaysB.fact {fa : List Fb} {fn : List He.DefD} {K : PySem.W.Frag} (c : SaysB fa fn K) {f : Fb} (h : f ∈ fa) : f.ok K = true := by
  have c1 := (He.ba (show ((fa.all fun f => f.ok K) && fn.all fun d => d.ok K) = true from congrArg (fun z : AlB => z.1) c)).1
  exact List.all_eq_true.mp c1 f h
theorem SaysB.def_ {fa : List Fb} {fn : List He.DefD} {K : PySem.W.Frag} (c : SaysB fa fn K) {i : Nat} {d : He.DefD} (h : fn[i]? = some d) : ∃ fd, FunD K d.name d.qual d.params d.body d.scope (d.dvs K) (d.kws K) (He.fAd K d.at_) fd := by
  have c2 := (He.ba (show ((fa.all fun f => f.ok K) && fn.all fun d => d.ok K) = true from congrArg (fun z : AlB => z.1) c)).2
  have e : fn.map (fun d => He.fnW K d.at_) = fn.map He.DefD.val := congrArg (fun z : AlB => z.2) c
  have e2 : (fn.map fun d => He.fnW K d.at_)[i]? = (fn.map He.DefD.val)[i]? := by rw [e]
  rw [List.getElem?_map, List.getElem?_map, h] at e2
  exact He.DefD.funD (Option.some.inj e2) (List.all_eq_true.mp c2 d (List.mem_of_getElem? h))
end Nb
end
section
set_option maxRecDepth 100000
namespace Nb
open PySem PySem.Spec PyProof.Rows L2
/-! ### the tables of a program -/
structure Tb where
  names : List Str
  fn : List He.DefD
  dd : List (Def × List Str)
  glo : List (Nat × Nat)
  cn : List Nat
  meth : List (Nat × Nat × Nat)
  init : List (Nat × Nat)
  sup : List (Nat × Nat)
  flds : List (Nat × Nat)
  nums : List (Nat × Int)
  free : List Str
  fuel : Nat
section
variable (t : Tb)
def Tb.nm (i : Nat) : Str := match t.names[i]? with
  | some s => s
  | none => ⟨Array.replicate (i + 1) 0⟩
def Tb.cnm (C : Nat) : Str := t.nm (t.cn.getD C t.names.length)
def Tb.at_ (i : Nat) : Str × Option Str := match t.fn[i]? with
  | some d => d.at_
  | none => (Str.empty, none)
def Tb.own (i : Nat) : Str := (t.at_ i).1
def Tb.mth (i : Nat) : Str := (t.at_ i).2.getD Str.empty
def Tb.f0 : List Fb := t.glo.map fun q => Fb.fa (He.Fa.glo (t.nm q.1))
def Tb.f1 : List Fb := t.cn.map fun n => Fb.fa (He.Fa.glo (t.nm n))
def Tb.f2 : List Fb := t.cn.map fun n => Fb.fa (He.Fa.cls (t.nm n))
def Tb.f3 : List Fb := t.meth.map fun q => Fb.fa (He.Fa.meth (t.cnm q.1) (t.nm q.2.1))
def Tb.f4 : List Fb := t.meth.map fun q => Fb.same (t.cnm q.1) (t.nm q.2.1) (t.own q.2.2) (t.mth q.2.2)
def Tb.f5 : List Fb := t.init.map fun q => Fb.fa (He.Fa.mkr (t.cnm q.1))
def Tb.f6 : List Fb := t.init.map fun q => Fb.same (t.cnm q.1) "__init__" (t.own q.2) (t.mth q.2)
def Tb.f7 : List Fb := t.sup.map fun q => Fb.cfn (t.cnm q.1) "__init__"
def Tb.f8 : List Fb := t.sup.map fun q => Fb.same (t.cnm q.1) "__init__" (t.own q.2) (t.mth q.2)
def Tb.f9 : List Fb := t.flds.map fun q => Fb.fa (He.Fa.noat (t.cnm q.1) (t.nm q.2))
def Tb.f10 : List Fb := t.nums.map fun q => Fb.fa (He.Fa.int (t.nm q.1) q.2)
def Tb.f11 : List Fb := t.free.map fun x => Fb.fa (He.Fa.free x)
def Tb.facts : List Fb := List.append t.f0 (List.append t.f1 (List.append t.f2 (List.append t.f3 (List.append t.f4 (List.append t.f5 (List.append t.f6 (List.append t.f7 (List.append t.f8 (List.append t.f9 (List.append t.f10 t.f11))))))))))
def look2 : List (Nat × Nat × Nat) → Nat → Nat → Option Nat
  | [], _, _ => none
  | (a, b, f) :: r, x, y => if a = x ∧ b = y then some f else look2 r x y
def look1 : List (Nat × Nat) → Nat → Option Nat
  | [], _ => none
  | (a, f) :: r, x => if a = x then some f else look1 r x
end
end Nb
end
section
set_option maxRecDepth 100000
namespace Nb
open PySem PySem.Spec PyProof.Rows L2
/-! ### the head's look, in pieces -/
/-- facts i .. i + m - 1 -/
def pieceG (n : Nat) (fa : List Fb) (g : Addr → Option Obj) : Bool := forceF (getF g n) [] fun K => fa.all fun f => f.ok K
def defsG (n : Nat) (fn : List He.DefD) (g : Addr → Option Obj) : AlB := forceF (getF g n) [] fun K => (fn.all fun d => d.ok K, fn.map fun d => He.fnW K d.at_)
theorem map2 {α β γ : Type} {x : Option α} {f : α → β} {g : α → γ} {b : β} {c : γ} (h1 : x.map f = some b) (h2 : x.map g = some c) : x.map (fun s => (f s, g s)) = some (b, c) := by
  cases x with
  | none => cases h1
  | some a =>
    cases h1
    cases h2
    rfl
theorem mapB {α : Type} {x : Option α} {f g : α → Bool} (h1 : x.map f = some true) (h2 : x.map g = some true) : x.map (fun s => f s && g s) = some true := by
  cases x with
  | none => cases h1
  | some a =>
    have h1 : f a = true := Option.some.inj h1
    have h2 : g a = true := Option.some.inj h2
    show some (f a && g a) = some true
    rw [h1, h2] <;> rfl
theorem pieceG_app {n : Nat} {fa fb : List Fb} {g : Addr → Option Obj} : pieceG n (fa ++ fb) g = (pieceG n fa g && pieceG n fb g) := by
  unfold pieceG
  rw [forceF_eq, forceF_eq, forceF_eq, List.all_append]
theorem obsBG_pieces {n : Nat} {fa : List Fb} {fn : List He.DefD} {g : Addr → Option Obj} : obsBG n fa fn g = (pieceG n fa g && (defsG n fn g).1, (defsG n fn g).2) := by
  unfold obsBG pieceG defsG
  rw [forceF_eq, forceF_eq, forceF_eq]
  rfl
theorem run_pieces {σ β γ : Type} {x : Option σ} {A : σ → β} {B : σ → γ} {g : σ → Addr → Option Obj} {a : β} {b : γ} {n : Nat} {fa : List Fb} {fn : List He.DefD} (h0 : x.map (fun s => (A s, B s)) = some (a, b)) (h1 : x.map (fun s => pieceG n fa (g s)) = some true) (h2 : x.map (fun s => defsG n fn (g s)) = some (valB fn)) :
    x.map (fun s => (A s, B s, obsBG n fa fn (g s))) = some (a, b, valB fn) := by
  cases x with
  | none => cases h1
  | some s =>
    have h0 := Option.some.inj h0
    have h1 : pieceG n fa (g s) = true := Option.some.inj h1
    have h2 : defsG n fn (g s) = valB fn := Option.some.inj h2
    show some (A s, B s, obsBG n fa fn (g s)) = _
    rw [obsBG_pieces, h1, h2]
    have e1 : A s = a := congrArg Prod.fst h0
    have e2 : B s = b := congrArg Prod.snd h0
    rw [e1, e2]
    rfl
end Nb
namespace Nb
open PySem PySem.Spec PyProof.Rows L2
theorem run_split {σ : Type} {x : Option σ} {g : σ → Addr → Option Obj} {n : Nat} {fa : List Fb} (k : Nat) (h1 : x.map (fun s => pieceG n (fa.take k) (g s)) = some true) (h2 : x.map (fun s => pieceG n (fa.drop k) (g s)) = some true) : x.map (fun s => pieceG n fa (g s)) = some true := by
  have := mapB h1 h2
  have e : (fun s => pieceG n fa (g s)) = fun s => pieceG n (fa.take k) (g s) && pieceG n (fa.drop k) (g s) := by
    funext s
    rw [← pieceG_app, List.take_append_drop]
  rw [e]
  exact this
theorem run_dsplit {σ : Type} {x : Option σ} {g : σ → Addr → Option Obj} {n : Nat} {fn : List He.DefD} (k : Nat) (h1 : x.map (fun s => defsG n (fn.take k) (g s)) = some (valB (fn.take k))) (h2 : x.map (fun s => defsG n (fn.drop k) (g s)) = some (valB (fn.drop k))) : x.map (fun s => defsG n fn (g s)) = some (valB fn) := by
  cases x with
  | none => cases h1
  | some s =>
    have h1 : defsG n (fn.take k) (g s) = valB (fn.take k) := Option.some.inj h1
    have h2 : defsG n (fn.drop k) (g s) = valB (fn.drop k) := Option.some.inj h2
    show some (defsG n fn (g s)) = some (valB fn)
    congr 1
    unfold defsG valB at h1 h2 ⊢
    rw [forceF_eq] at h1 h2 ⊢
    have a1 := congrArg Prod.fst h1
    have a2 := congrArg Prod.fst h2
    have b1 := congrArg Prod.snd h1
    have b2 := congrArg Prod.snd h2
    have e := List.take_append_drop k fn
    refine Prod.ext ?_ ?_
    · show List.all fn _ = true
      rw [← e, List.all_append]
      exact (Bool.and_eq_true _ _).mpr ⟨a1, a2⟩
    · show List.map _ fn = List.map _ fn
      rw [← e, List.map_append, List.map_append]
      exact congr (congrArg List.append b1) b2
end Nb
end
section
set_option maxRecDepth 100000
namespace Lk48
open PySem PySem.Spec PyProof.Rows L2
def top (i : Nat) : Stmt := PySem.Challenge.pw_nearby_k48_whole_rounds_told.main.body.getD i (.Pass ⟨0, 0, 0, 0⟩)
def b0 : Nb.S := .cons (.setf 0 .root 0 (.var 1)) (.cons (.setf 0 .root 1 (.pv (.cst (.bl true)))) .nil)
def b1 : Nb.S := .cons (.iff (.pv (.bi .lt (.peek 0) (.cst (.int 2)))) (.cons (.ret (.pv (.cst (.bl false)))) .nil) (.nil)) (.cons (.asg (.var 1) (.pv (.cst (.int 2)))) (.cons (.whl (.pv (.bi .le (.bi .mul (.peek 1) (.peek 1)) (.peek 0))) (.cons (.iff (.pv (.bi .eq (.bi .sub (.peek 0) (.bi .mul (.peek 1) (.bi .fdiv (.peek 0) (.peek 1)))) (.cst (.int 0)))) (.cons (.ret (.pv (.cst (.bl false)))) .nil) (.nil)) (.cons (.aug .add 1 (.pv (.cst (.int 1)))) .nil))) (.cons (.ret (.pv (.cst (.bl true)))) .nil)))
def b2 : Nb.S := .cons (.whl (.not_ (.cal 1 (.cons (.var 0) .nil))) (.cons (.aug .add 0 (.pv (.cst (.int 1)))) .nil)) (.cons (.ret (.var 0)) .nil)
def b3 : Nb.S := .cons (.asg (.var 3) (.pv (.cst (.int 1)))) (.cons (.for_ .rng1 (.var 4) (.cons (.var 1) .nil) (.cons (.asg (.var 3) (.pv (.bi .mul (.peek 3) (.peek 0)))) (.cons (.iff (.pv (.bi .ge (.peek 3) (.peek 2))) (.cons (.ret (.pv (.cst (.bl true)))) .nil) (.nil)) .nil))) (.cons (.ret (.pv (.bi .ge (.peek 3) (.peek 2)))) .nil))
def b4 : Nb.S := .cons (.asg (.var 3) (.cal 2 (.cons (.pv (.bi .add (.bi .mul (.peek 0) (.peek 1)) (.cst (.int 1)))) .nil))) (.cons (.whl (.not_ (.cal 3 (.cons (.var 3) (.cons (.pv (.bi .add (.peek 1) (.cst (.int 1)))) (.cons (.var 2) .nil))))) (.cons (.asg (.var 3) (.cal 2 (.cons (.pv (.bi .add (.peek 3) (.cst (.int 1)))) .nil))) .nil)) (.cons (.ret (.var 3)) .nil))
def b5 : Nb.S := .cons (.asg (.var 2) (.pv (.cst (.non)))) (.cons (.for_ .rng2 (.var 3) (.cons (.pv (.cst (.int 1))) (.cons (.pv (.bi .add (.un .bitl (.peek 1)) (.cst (.int 1)))) .nil)) (.cons (.asg (.var 4) (.cal 4 (.cons (.var 0) (.cons (.var 3) (.cons (.var 1) .nil))))) (.cons (.iff (.pv (.or_ (.bi .isN (.peek 2) (.cst (.non))) (.bi .lt (.peek 4) (.bi .idx (.peek 2) (.cst (.int 0)))))) (.cons (.asg (.var 2) (.ds .tup (.cons (.var 4) (.cons (.var 3) .nil)))) .nil) (.nil)) .nil))) (.cons (.ret (.var 2)) .nil))
def b6 : Nb.S := .cons (.asg (.tup (.cons (.var 1) (.cons (.var 2) .nil))) (.var 0)) (.cons (.asg (.var 3) (.ds .lst (.cons (.var 2) .nil))) (.cons (.asg (.tup (.cons (.var 4) (.cons (.var 5) .nil))) (.cal 5 (.cons (.var 1) (.cons (.var 2) .nil)))) (.cons (.whl (.pv (.bi .lt (.bi .mul (.peek 4) (.peek 4)) (.bi .idx (.peek 3) (.un .neg (.cst (.int 1)))))) (.cons (.mut .append 3 .root (.cons (.pv (.bi .mul (.peek 4) (.peek 4))) .nil)) (.cons (.asg (.tup (.cons (.var 4) (.cons (.var 5) .nil))) (.cal 5 (.cons (.var 1) (.cons (.pv (.bi .idx (.peek 3) (.un .neg (.cst (.int 1))))) .nil)))) .nil))) (.cons (.ret (.var 3)) .nil))))
def b7 : Nb.S := .cons (.setf 0 .root 1 (.pv (.cst (.bl true)))) .nil
def b8 : Nb.S := .cons (.ret (.bi .sub (.un .len (.cal 6 (.cons (.var 1) .nil))) (.pv (.cst (.int 1))))) .nil
def b9 : Nb.S := .cons (.setf 0 .root 8 (.var 1)) (.cons (.setf 0 .root 1 (.pv (.cst (.bl false)))) .nil)
def b10 : Nb.S := .cons (.ret (.pv (.bi .max2 (.cst (.int 0)) (.bi .sub (.bi .sub (.un (.fld 8) (.peek 0)) (.bi .idx (.peek 1) (.cst (.int 0)))) (.cst (.int 1)))))) .nil
def b11 : Nb.S := .cons (.setf 0 .root 1 (.pv (.cst (.bl true)))) .nil
def b12 : Nb.S := .cons (.asg (.var 2) (.cal 6 (.cons (.var 1) .nil))) (.cons (.ret (.pv (.bi .add (.bi .sub (.un .len (.peek 2)) (.cst (.int 1))) (.bi .max2 (.cst (.int 0)) (.bi .sub (.bi .sub (.bi .idx (.peek 2) (.un .neg (.cst (.int 1)))) (.bi .idx (.peek 1) (.cst (.int 0)))) (.cst (.int 1))))))) .nil)
def b13 : Nb.S := .cons (.setf 0 .root 9 (.var 1)) (.cons (.setf 0 .root 10 (.var 2)) (.cons (.setf 0 .root 1 (.pv (.or_ (.un (.fld 1) (.peek 1)) (.un (.fld 1) (.peek 2))))) .nil))
def b14 : Nb.S := .cons (.ret (.bi .add (.mtv 11 (.pv (.un (.fld 9) (.peek 0))) (.cons (.var 1) .nil)) (.mtv 11 (.pv (.un (.fld 10) (.peek 0))) (.cons (.var 1) .nil)))) .nil
def b15 : Nb.S := .cons (.setf 0 .root 1 (.pv (.cst (.bl false)))) .nil
def b16 : Nb.S := .cons (.ret (.pv (.bi .add (.bi .idx (.peek 1) (.cst (.int 0))) (.cst (.int 1))))) .nil
def b17 : Nb.S := .cons (.expr (.sup 4 (.cons (.mak 3 (.nil)) (.cons (.mak 5 (.nil)) .nil)))) .nil
def b18 : Nb.S := .cons (.iff (.pv (.bi .lt (.peek 1) (.cst (.int 1)))) (.cons (.stuck) .nil) (.nil)) (.cons (.asg (.tup (.cons (.var 2) (.cons (.var 3) .nil))) (.var 0)) (.cons (.asg (.var 4) (.pv (.cst (.int 0)))) (.cons (.asg (.var 5) (.var 2)) (.cons (.for_ .rng1 (.var 6) (.cons (.var 1) .nil) (.cons (.aug .add 4 (.var 5)) (.cons (.asg (.var 5) (.pv (.bi .mul (.peek 5) (.bi .sub (.peek 2) (.cst (.int 1)))))) .nil))) (.cons (.ret (.ds .tup (.cons (.var 4) (.cons (.var 3) .nil)))) .nil)))))
def b19 : Nb.S := .cons (.setf 0 .root 13 (.var 1)) (.cons (.setf 0 .root 14 (.var 2)) (.cons (.setf 0 .root 15 (.mak 0 (.cons (.var 2) .nil))) (.cons (.setf 0 .root 1 (.pv (.cst (.bl true)))) .nil)))
def b20 : Nb.S := .cons (.ret (.bi .mul (.pv (.un (.fld 14) (.peek 0))) (.bi .add (.pv (.cst (.int 1))) (.mtv 11 (.pv (.un (.fld 13) (.peek 0))) (.cons (.cal 18 (.cons (.var 1) (.cons (.pv (.un (.fld 14) (.peek 0))) .nil))) .nil))))) .nil
def b21 : Nb.S := .cons (.expr (.sup 7 (.cons (.mak 3 (.nil)) (.cons (.var 1) .nil)))) .nil
def b22 : Nb.S := .cons (.ret (.pv (.bi .max2 (.cst (.int 1)) (.un .bitl (.bi .sub (.bi .idx (.peek 0) (.cst (.int 1))) (.cst (.int 1))))))) .nil
def b23 : Nb.S := .cons (.setf 0 .root 1 (.pv (.cst (.bl true)))) .nil
def b24 : Nb.S := .cons (.ret (.cal 22 (.cons (.var 1) .nil))) .nil
def b25 : Nb.S := .cons (.setf 0 .root 1 (.pv (.cst (.bl true)))) .nil
def b26 : Nb.S := .cons (.ret (.cal 22 (.cons (.var 1) .nil))) .nil
def b27 : Nb.S := .cons (.expr (.sup 4 (.cons (.mak 9 (.nil)) (.cons (.mak 10 (.nil)) .nil)))) .nil
def b28 : Nb.S := .cons (.setf 0 .root 17 (.mak 11 (.nil))) (.cons (.setf 0 .root 1 (.pv (.cst (.bl true)))) .nil)
def b29 : Nb.S := .cons (.ret (.bi .mul (.pv (.cst (.int 4))) (.cal 22 (.cons (.var 1) .nil)))) .nil
def b30 : Nb.S := .cons (.setf 0 .root 1 (.pv (.cst (.bl false)))) .nil
def b31 : Nb.S := .cons (.ret (.pv (.bi .add (.bi .idx (.peek 1) (.cst (.int 0))) (.cst (.int 1))))) .nil
def b32 : Nb.S := .cons (.expr (.sup 4 (.cons (.mak 3 (.nil)) (.cons (.mak 13 (.nil)) .nil)))) .nil
def b33 : Nb.S := .cons (.asg (.tup (.cons (.var 1) (.cons (.var 2) .nil))) (.var 0)) (.cons (.ret (.ds .tup (.cons (.pv (.bi .max2 (.cst (.int 1)) (.bi .sub (.bi .mul (.cst (.int 2)) (.peek 1)) (.cst (.int 2))))) (.cons (.pv (.bi .mul (.peek 2) (.peek 2))) .nil)))) .nil)
def b34 : Nb.S := .cons (.setf 0 .root 13 (.var 1)) (.cons (.setf 0 .root 1 (.pv (.cst (.bl true)))) .nil)
def b35 : Nb.S := .cons (.ret (.bi .add (.pv (.cst (.int 3))) (.bi .mul (.pv (.cst (.int 2))) (.mtv 11 (.pv (.un (.fld 13) (.peek 0))) (.cons (.cal 33 (.cons (.var 1) .nil)) .nil))))) .nil
def b36 : Nb.S := .cons (.expr (.sup 15 (.cons (.mak 3 (.nil)) .nil))) .nil
def b37 : Nb.S := .cons (.setf 0 .root 1 (.pv (.cst (.bl false)))) .nil
def b38 : Nb.S := .cons (.ret (.pv (.bi .mul (.bi .mul (.cst (.int 2)) (.bi .idx (.peek 1) (.cst (.int 0)))) (.bi .add (.bi .idx (.peek 1) (.cst (.int 0))) (.cst (.int 1)))))) .nil
def b39 : Nb.S := .cons (.expr (.sup 4 (.cons (.mak 3 (.nil)) (.cons (.mak 17 (.nil)) .nil)))) .nil
def b40 : Nb.S := .cons (.setf 0 .root 1 (.pv (.cst (.bl false)))) .nil
def b41 : Nb.S := .cons (.ret (.pv (.bi .mul (.cst (.int 2)) (.bi .idx (.peek 1) (.cst (.int 0)))))) .nil
def b42 : Nb.S := .cons (.iff (.pv (.or_ (.bi .lt (.peek 2) (.cst (.int 1))) (.bi .lt (.peek 3) (.cst (.int 1))))) (.cons (.stuck) .nil) (.nil)) (.cons (.setf 0 .root 13 (.var 1)) (.cons (.setf 0 .root 19 (.var 2)) (.cons (.setf 0 .root 20 (.var 3)) (.cons (.setf 0 .root 1 (.pv (.un (.fld 1) (.peek 1)))) .nil))))
def b43 : Nb.S := .cons (.ret (.pv (.un .neg (.bi .fdiv (.un .neg (.un (.fld 20) (.peek 0))) (.un (.fld 19) (.peek 0)))))) .nil
def b44 : Nb.S := .cons (.ret (.bi .mul (.mtv 21 (.var 0) (.nil)) (.mtv 11 (.pv (.un (.fld 13) (.peek 0))) (.cons (.var 1) .nil)))) .nil
def b45 : Nb.S := .cons (.setf 0 .root 22 (.var 1)) (.cons (.setf 0 .root 1 (.pv (.cst (.bl false)))) .nil)
def b46 : Nb.S := .cons (.ret (.pv (.un (.fld 22) (.peek 0)))) .nil
def b47 : Nb.S := .cons (.iff (.pv (.bi .lt (.peek 1) (.un .len (.peek 0)))) (.cons (.ret (.pv (.bi .idx (.peek 0) (.peek 1)))) .nil) (.nil)) (.cons (.ret (.pv (.cst (.int 0)))) .nil)
def b48 : Nb.S := .cons (.asg (.var 2) (.ds .lst (.nil))) (.cons (.asg (.var 3) (.var 0)) (.cons (.for_ .rng1 (.var 4) (.cons (.var 1) .nil) (.cons (.iff (.pv (.and_ (.bi .ge (.peek 0) (.bi .pow (.cst (.int 10)) (.cst (.int 18)))) (.bi .gt (.peek 3) (.cst (.int 0))))) (.cons (.mut .append 2 .root (.cons (.pv (.bi .mod (.un .int (.peek 3)) (.cst (.int 4099)))) .nil)) (.cons (.asg (.var 3) (.pv (.bi .fdiv (.peek 3) (.cst (.int 4099))))) .nil)) (.cons (.asg (.var 5) (.pv (.bi .mod (.un .int (.bi .add (.bi .mul (.peek 0) (.cst (.int 69621))) (.bi .mul (.bi .add (.peek 4) (.cst (.int 1))) (.cst (.int 48271))))) (.cst (.int 2147483647))))) (.cons (.asg (.var 5) (.pv (.bi .mod (.un .int (.bi .add (.bi .add (.bi .mul (.peek 5) (.peek 5)) (.bi .mul (.peek 5) (.cst (.int 16807)))) (.bi .mul (.peek 4) (.cst (.int 7919))))) (.cst (.int 2147483629))))) (.cons (.asg (.var 5) (.pv (.bi .mod (.un .int (.bi .add (.bi .add (.bi .mul (.peek 5) (.peek 5)) (.peek 0)) (.bi .mul (.cst (.int 17)) (.peek 4)))) (.cst (.int 2147483587))))) (.cons (.mut .append 2 .root (.cons (.pv (.bi .mod (.bi .fdiv (.peek 5) (.cst (.int 5))) (.cst (.int 4099)))) .nil)) .nil))))) .nil)) (.cons (.ret (.var 2)) .nil)))
def b49 : Nb.S := .cons (.asg (.var 1) (.ds .lst (.nil))) (.cons (.for_ .rng1 (.var 2) (.cons (.pv (.bi .min2 (.cst (.int 6)) (.bi .max2 (.cst (.int 1)) (.un .len (.peek 0))))) .nil) (.cons (.asg (.var 1) (.bi .add (.var 1) (.cal 48 (.cons (.bi .add (.cal 47 (.cons (.var 0) (.cons (.var 2) .nil))) (.pv (.bi .mul (.cst (.int 11)) (.peek 2)))) (.cons (.pv (.cst (.int 24))) .nil))))) .nil)) (.cons (.ret (.ds .lst (.cons (.var 1) (.cons (.ds .lst (.cons (.pv (.cst (.int 0))) .nil)) .nil)))) .nil))
def b50 : Nb.S := .cons (.asg (.var 2) (.pv (.bi .idx (.bi .idx (.peek 0) (.cst (.int 1))) (.cst (.int 0))))) (.cons (.seti 0 (.ix .root (.cst (.int 1))) (.cst (.int 0)) (.pv (.bi .add (.peek 2) (.cst (.int 1))))) (.cons (.asg (.var 3) (.pv (.bi .fdiv (.peek 2) (.un .len (.bi .idx (.peek 0) (.cst (.int 0))))))) (.cons (.ret (.pv (.bi .mod (.un .int (.bi .add (.bi .add (.bi .idx (.bi .idx (.peek 0) (.cst (.int 0))) (.bi .mod (.peek 2) (.un .len (.bi .idx (.peek 0) (.cst (.int 0)))))) (.bi .mul (.peek 3) (.cst (.int 1013)))) (.bi .mul (.bi .mul (.peek 3) (.peek 2)) (.cst (.int 7))))) (.peek 1)))) .nil)))
def b51 : Nb.S := .cons (.iff (.pv (.un (.isi 0) (.peek 0))) (.cons (.ret (.pv (.cst (.int 1)))) .nil) (.nil)) (.cons (.iff (.pv (.un (.isi 1) (.peek 0))) (.cons (.ret (.pv (.cst (.int 2)))) .nil) (.nil)) (.cons (.iff (.pv (.un (.isi 2) (.peek 0))) (.cons (.ret (.pv (.cst (.int 3)))) .nil) (.nil)) (.cons (.iff (.pv (.un (.isi 3) (.peek 0))) (.cons (.ret (.pv (.cst (.int 4)))) .nil) (.nil)) (.cons (.iff (.pv (.un (.isi 4) (.peek 0))) (.cons (.ret (.pv (.cst (.int 5)))) .nil) (.nil)) (.cons (.iff (.pv (.bi .isN (.peek 0) (.cst (.non)))) (.cons (.ret (.pv (.cst (.int 6)))) .nil) (.nil)) (.cons (.ret (.pv (.cst (.int 0)))) .nil))))))
def b52 : Nb.S := .cons (.iff (.or_ (.bi .ne (.cal 51 (.cons (.var 0) .nil)) (.cal 51 (.cons (.var 1) .nil))) (.bi .eq (.cal 51 (.cons (.var 0) .nil)) (.pv (.cst (.int 0))))) (.cons (.ret (.pv (.cst (.bl false)))) .nil) (.nil)) (.cons (.iff (.pv (.or_ (.un (.isi 3) (.peek 1)) (.un (.isi 4) (.peek 1)))) (.cons (.iff (.pv (.bi .ne (.un .len (.peek 0)) (.un .len (.peek 1)))) (.cons (.ret (.pv (.cst (.bl false)))) .nil) (.nil)) (.cons (.for_ .rng1 (.var 2) (.cons (.pv (.un .len (.peek 1))) .nil) (.cons (.iff (.not_ (.cal 52 (.cons (.pv (.bi .idx (.peek 0) (.peek 2))) (.cons (.pv (.bi .idx (.peek 1) (.peek 2))) .nil)))) (.cons (.ret (.pv (.cst (.bl false)))) .nil) (.nil)) .nil)) (.cons (.ret (.pv (.cst (.bl true)))) .nil))) (.nil)) (.cons (.ret (.pv (.bi .eq (.peek 0) (.peek 1)))) .nil))
def b53 : Nb.S := .cons (.asg (.var 1) (.pv (.cst (.int 1)))) (.cons (.for_ .rng1 (.var 2) (.cons (.pv (.cst (.int 40))) .nil) (.cons (.iff (.pv (.bi .gt (.peek 0) (.cst (.int 1)))) (.cons (.asg (.var 0) (.pv (.bi .fdiv (.peek 0) (.cst (.int 2))))) (.cons (.asg (.var 1) (.pv (.bi .add (.peek 1) (.cst (.int 1))))) .nil)) (.nil)) .nil)) (.cons (.ret (.var 1)) .nil))
def b54 : Nb.S := .cons (.asg (.var 1) (.cal 49 (.cons (.var 0) .nil))) (.cons (.asg (.var 2) (.bi .add (.pv (.cst (.int 1))) (.cab 50 1 (.cons (.pv (.cst (.int 6))) .nil)))) (.cons (.asg (.var 3) (.ds .tup (.cons (.var 2) (.cons (.bi .add (.pv (.cst (.int 1))) (.cab 50 1 (.cons (.bi .idx (.ds .lst (.cons (.pv (.cst (.int 40))) (.cons (.pv (.cst (.int 4000))) .nil))) (.cab 50 1 (.cons (.pv (.cst (.int 2))) .nil))) .nil))) .nil)))) (.cons (.asg (.var 4) (.cal 6 (.cons (.var 3) .nil))) (.cons (.asg (.var 5) (.pv (.bi .add (.bi .sub (.un .len (.peek 4)) (.cst (.int 1))) (.bi .max2 (.cst (.int 0)) (.bi .sub (.bi .sub (.bi .idx (.peek 4) (.un .neg (.cst (.int 1)))) (.peek 2)) (.cst (.int 1))))))) (.cons (.iff (.or_ (.pv (.bi .ne (.bi .idx (.peek 4) (.cst (.int 0))) (.bi .idx (.peek 3) (.cst (.int 1))))) (.bi .gt (.un .len (.lcp .rng2 [6] (.var 6) (.cons (.pv (.cst (.int 1))) (.cons (.pv (.un .len (.peek 4))) .nil)) (.pv (.bi .ge (.bi .idx (.peek 4) (.peek 6)) (.bi .idx (.peek 4) (.bi .sub (.peek 6) (.cst (.int 1)))))) (.var 6))) (.pv (.cst (.int 0))))) (.cons (.ret (.pv (.cst (.bl false)))) .nil) (.nil)) (.cons (.for_ .rng1 (.var 6) (.cons (.pv (.un .len (.peek 4))) .nil) (.cons (.asg (.var 7) (.bi .idx (.cal 5 (.cons (.var 2) (.cons (.pv (.bi .idx (.peek 4) (.peek 6))) .nil))) (.pv (.cst (.int 0))))) (.cons (.iff (.pv (.and_ (.bi .lt (.bi .add (.peek 6) (.cst (.int 1))) (.un .len (.peek 4))) (.bi .ne (.bi .idx (.peek 4) (.bi .add (.peek 6) (.cst (.int 1)))) (.bi .mul (.peek 7) (.peek 7))))) (.cons (.ret (.pv (.cst (.bl false)))) .nil) (.nil)) (.cons (.iff (.pv (.and_ (.bi .eq (.bi .add (.peek 6) (.cst (.int 1))) (.un .len (.peek 4))) (.bi .lt (.bi .mul (.peek 7) (.peek 7)) (.bi .idx (.peek 4) (.peek 6))))) (.cons (.ret (.pv (.cst (.bl false)))) .nil) (.nil)) .nil)))) (.cons (.asg (.var 8) (.ds .lst (.cons (.ds .tup (.cons (.mak 1 (.nil)) (.cons (.pv (.bi .sub (.un .len (.peek 4)) (.cst (.int 1)))) .nil))) (.cons (.ds .tup (.cons (.mak 3 (.nil)) (.cons (.var 5) .nil))) (.cons (.ds .tup (.cons (.mak 6 (.nil)) (.cons (.pv (.bi .add (.bi .add (.peek 5) (.peek 2)) (.cst (.int 1)))) .nil))) (.cons (.ds .tup (.cons (.mak 14 (.nil)) (.cons (.pv (.bi .add (.bi .add (.peek 5) (.peek 2)) (.cst (.int 1)))) .nil))) (.cons (.ds .tup (.cons (.mak 18 (.nil)) (.cons (.pv (.bi .add (.peek 5) (.bi .mul (.bi .mul (.cst (.int 2)) (.peek 2)) (.bi .add (.peek 2) (.cst (.int 1)))))) .nil))) .nil))))))) (.cons (.asg (.var 9) (.cal 53 (.cons (.pv (.bi .sub (.bi .idx (.peek 3) (.cst (.int 1))) (.cst (.int 1)))) .nil))) (.cons (.asg (.var 10) (.cab 50 1 (.cons (.pv (.cst (.int 30))) .nil))) (.cons (.asg (.var 8) (.bi .add (.var 8) (.ds .lst (.cons (.ds .tup (.cons (.mak 19 (.nil)) (.cons (.pv (.bi .mul (.cst (.int 2)) (.peek 2))) .nil))) (.cons (.ds .tup (.cons (.mak 9 (.nil)) (.cons (.var 9) .nil))) (.cons (.ds .tup (.cons (.mak 11 (.nil)) (.cons (.pv (.bi .mul (.cst (.int 2)) (.peek 9))) .nil))) (.cons (.ds .tup (.cons (.mak 12 (.nil)) (.cons (.pv (.bi .mul (.cst (.int 4)) (.peek 9))) .nil))) (.cons (.ds .tup (.cons (.mak 2 (.cons (.var 10) .nil)) (.cons (.pv (.bi .max2 (.cst (.int 0)) (.bi .sub (.bi .sub (.peek 10) (.peek 2)) (.cst (.int 1))))) .nil))) .nil)))))))) (.cons (.for_ .seq (.tup (.cons (.var 11) (.cons (.var 12) .nil))) (.cons (.var 8) .nil) (.cons (.iff (.not_ (.cal 52 (.cons (.mtv 11 (.var 11) (.cons (.var 3) .nil)) (.cons (.var 12) .nil)))) (.cons (.ret (.pv (.cst (.bl false)))) .nil) (.nil)) .nil)) (.cons (.iff (.or_ (.bi .ne (.mtv 11 (.mak 4 (.cons (.mak 3 (.nil)) (.cons (.mak 5 (.nil)) .nil))) (.cons (.var 3) .nil)) (.mtv 11 (.mak 6 (.nil)) (.cons (.var 3) .nil))) (.bi .ne (.mtv 11 (.mak 4 (.cons (.mak 3 (.nil)) (.cons (.mak 13 (.nil)) .nil))) (.cons (.var 3) .nil)) (.mtv 11 (.mak 14 (.nil)) (.cons (.var 3) .nil)))) (.cons (.ret (.pv (.cst (.bl false)))) .nil) (.nil)) (.cons (.asg (.var 13) (.bi .add (.pv (.cst (.int 1))) (.cab 50 1 (.cons (.pv (.cst (.int 3))) .nil)))) (.cons (.asg (.var 14) (.cal 18 (.cons (.var 3) (.cons (.var 13) .nil)))) (.cons (.asg (.var 15) (.pv (.cst (.int 0)))) (.cons (.asg (.var 16) (.var 2)) (.cons (.for_ .rng1 (.var 6) (.cons (.var 13) .nil) (.cons (.asg (.var 15) (.pv (.bi .add (.peek 15) (.peek 16)))) (.cons (.asg (.var 16) (.pv (.bi .mul (.peek 16) (.bi .sub (.peek 2) (.cst (.int 1)))))) .nil))) (.cons (.iff (.or_ (.not_ (.cal 52 (.cons (.var 14) (.cons (.ds .tup (.cons (.var 15) (.cons (.pv (.bi .idx (.peek 3) (.cst (.int 1)))) .nil))) .nil)))) (.not_ (.cal 52 (.cons (.mtv 11 (.mak 8 (.cons (.var 13) .nil)) (.cons (.var 3) .nil)) (.cons (.bi .mul (.var 13) (.bi .add (.pv (.cst (.int 1))) (.mtv 11 (.mak 3 (.nil)) (.cons (.var 14) .nil)))) .nil))))) (.cons (.ret (.pv (.cst (.bl false)))) .nil) (.nil)) (.cons (.asg (.var 17) (.cab 50 1 (.cons (.pv (.cst (.int 5))) .nil))) (.cons (.iff (.not_ (.cal 52 (.cons (.mtv 11 (.mak 7 (.cons (.mak 21 (.cons (.var 17) .nil)) (.cons (.var 13) .nil))) (.cons (.var 3) .nil)) (.cons (.pv (.bi .mul (.peek 13) (.bi .add (.cst (.int 1)) (.peek 17)))) .nil)))) (.cons (.ret (.pv (.cst (.bl false)))) .nil) (.nil)) (.cons (.asg (.var 18) (.cal 33 (.cons (.var 3) .nil))) (.cons (.iff (.or_ (.not_ (.cal 52 (.cons (.var 18) (.cons (.ds .tup (.cons (.pv (.bi .max2 (.cst (.int 1)) (.bi .sub (.bi .mul (.cst (.int 2)) (.peek 2)) (.cst (.int 2))))) (.cons (.pv (.bi .mul (.bi .idx (.peek 3) (.cst (.int 1))) (.bi .idx (.peek 3) (.cst (.int 1))))) .nil))) .nil)))) (.not_ (.cal 52 (.cons (.mtv 11 (.mak 16 (.nil)) (.cons (.var 3) .nil)) (.cons (.bi .add (.pv (.cst (.int 3))) (.bi .mul (.pv (.cst (.int 2))) (.mtv 11 (.mak 3 (.nil)) (.cons (.var 18) .nil)))) .nil))))) (.cons (.ret (.pv (.cst (.bl false)))) .nil) (.nil)) (.cons (.iff (.not_ (.cal 52 (.cons (.mtv 11 (.mak 15 (.cons (.mak 19 (.nil)) .nil)) (.cons (.var 3) .nil)) (.cons (.pv (.bi .add (.cst (.int 3)) (.bi .mul (.cst (.int 4)) (.bi .idx (.peek 18) (.cst (.int 0)))))) .nil)))) (.cons (.ret (.pv (.cst (.bl false)))) .nil) (.nil)) (.cons (.asg (.var 19) (.bi .add (.pv (.cst (.int 1))) (.cab 50 1 (.cons (.pv (.cst (.int 9))) .nil)))) (.cons (.asg (.var 20) (.bi .add (.pv (.cst (.int 1))) (.cab 50 1 (.cons (.pv (.cst (.int 40))) .nil)))) (.cons (.asg (.var 21) (.mak 20 (.cons (.mak 7 (.cons (.mak 21 (.cons (.var 17) .nil)) (.cons (.var 13) .nil))) (.cons (.var 19) (.cons (.var 20) .nil))))) (.cons (.ret (.cal 52 (.cons (.mtv 11 (.var 21) (.cons (.var 3) .nil)) (.cons (.pv (.bi .mul (.bi .mul (.peek 13) (.bi .add (.cst (.int 1)) (.peek 17))) (.bi .fdiv (.bi .sub (.bi .add (.peek 20) (.peek 19)) (.cst (.int 1))) (.peek 19)))) .nil)))) .nil)))))))))))))))))))))))))))
def d0 : He.DefD := ⟨("Gather", some "__init__"), "__init__", "Gather.__init__", defArgs (inClass (top 5) 0), defBody (inClass (top 5) 0), defScope (inClass (top 5) 0), [], []⟩
def d1 : He.DefD := ⟨("is_prime", none), "is_prime", "is_prime", defArgs (top 10), defBody (top 10), defScope (top 10), [], []⟩
def d2 : He.DefD := ⟨("prime_from", none), "prime_from", "prime_from", defArgs (top 11), defBody (top 11), defScope (top 11), [], []⟩
def d3 : He.DefD := ⟨("reaches", none), "reaches", "reaches", defArgs (top 12), defBody (top 12), defScope (top 12), [], []⟩
def d4 : He.DefD := ⟨("prime_for", none), "prime_for", "prime_for", defArgs (top 13), defBody (top 13), defScope (top 13), [], []⟩
def d5 : He.DefD := ⟨("step_of", none), "step_of", "step_of", defArgs (top 14), defBody (top 14), defScope (top 14), [], []⟩
def d6 : He.DefD := ⟨("palettes", none), "palettes", "palettes", defArgs (top 15), defBody (top 15), defScope (top 15), [], []⟩
def d7 : He.DefD := ⟨("Shrink", some "__init__"), "__init__", "Shrink.__init__", defArgs (inClass (top 17) 0), defBody (inClass (top 17) 0), defScope (inClass (top 17) 0), [], []⟩
def d8 : He.DefD := ⟨("Shrink", some "rounds"), "rounds", "Shrink.rounds", defArgs (inClass (top 17) 1), defBody (inClass (top 17) 1), defScope (inClass (top 17) 1), [], []⟩
def d9 : He.DefD := ⟨("Fewer", some "__init__"), "__init__", "Fewer.__init__", defArgs (inClass (top 18) 0), defBody (inClass (top 18) 0), defScope (inClass (top 18) 0), [], []⟩
def d10 : He.DefD := ⟨("Fewer", some "rounds"), "rounds", "Fewer.rounds", defArgs (inClass (top 18) 1), defBody (inClass (top 18) 1), defScope (inClass (top 18) 1), [], []⟩
def d11 : He.DefD := ⟨("Colors", some "__init__"), "__init__", "Colors.__init__", defArgs (inClass (top 19) 0), defBody (inClass (top 19) 0), defScope (inClass (top 19) 0), [], []⟩
def d12 : He.DefD := ⟨("Colors", some "rounds"), "rounds", "Colors.rounds", defArgs (inClass (top 19) 1), defBody (inClass (top 19) 1), defScope (inClass (top 19) 1), [], []⟩
def d13 : He.DefD := ⟨("Then", some "__init__"), "__init__", "Then.__init__", defArgs (inClass (top 21) 0), defBody (inClass (top 21) 0), defScope (inClass (top 21) 0), [], []⟩
def d14 : He.DefD := ⟨("Then", some "rounds"), "rounds", "Then.rounds", defArgs (inClass (top 21) 1), defBody (inClass (top 21) 1), defScope (inClass (top 21) 1), [], []⟩
def d15 : He.DefD := ⟨("IndependentFromColors", some "__init__"), "__init__", "IndependentFromColors.__init__", defArgs (inClass (top 23) 0), defBody (inClass (top 23) 0), defScope (inClass (top 23) 0), [], []⟩
def d16 : He.DefD := ⟨("IndependentFromColors", some "rounds"), "rounds", "IndependentFromColors.rounds", defArgs (inClass (top 23) 1), defBody (inClass (top 23) 1), defScope (inClass (top 23) 1), [], []⟩
def d17 : He.DefD := ⟨("Independent", some "__init__"), "__init__", "Independent.__init__", defArgs (inClass (top 24) 0), defBody (inClass (top 24) 0), defScope (inClass (top 24) 0), [], []⟩
def d18 : He.DefD := ⟨("power_bounds", none), "power_bounds", "power_bounds", defArgs (top 26), defBody (top 26), defScope (top 26), [], []⟩
def d19 : He.DefD := ⟨("OnPower", some "__init__"), "__init__", "OnPower.__init__", defArgs (inClass (top 27) 0), defBody (inClass (top 27) 0), defScope (inClass (top 27) 0), [], []⟩
def d20 : He.DefD := ⟨("OnPower", some "rounds"), "rounds", "OnPower.rounds", defArgs (inClass (top 27) 1), defBody (inClass (top 27) 1), defScope (inClass (top 27) 1), [], []⟩
def d21 : He.DefD := ⟨("FarColors", some "__init__"), "__init__", "FarColors.__init__", defArgs (inClass (top 28) 0), defBody (inClass (top 28) 0), defScope (inClass (top 28) 0), [], []⟩
def d22 : He.DefD := ⟨("digit_count", none), "digit_count", "digit_count", defArgs (top 30), defBody (top 30), defScope (top 30), [], []⟩
def d23 : He.DefD := ⟨("Rulers", some "__init__"), "__init__", "Rulers.__init__", defArgs (inClass (top 31) 0), defBody (inClass (top 31) 0), defScope (inClass (top 31) 0), [], []⟩
def d24 : He.DefD := ⟨("Rulers", some "rounds"), "rounds", "Rulers.rounds", defArgs (inClass (top 31) 1), defBody (inClass (top 31) 1), defScope (inClass (top 31) 1), [], []⟩
def d25 : He.DefD := ⟨("ClustersFromRulers", some "__init__"), "__init__", "ClustersFromRulers.__init__", defArgs (inClass (top 32) 0), defBody (inClass (top 32) 0), defScope (inClass (top 32) 0), [], []⟩
def d26 : He.DefD := ⟨("ClustersFromRulers", some "rounds"), "rounds", "ClustersFromRulers.rounds", defArgs (inClass (top 32) 1), defBody (inClass (top 32) 1), defScope (inClass (top 32) 1), [], []⟩
def d27 : He.DefD := ⟨("Clusters", some "__init__"), "__init__", "Clusters.__init__", defArgs (inClass (top 33) 0), defBody (inClass (top 33) 0), defScope (inClass (top 33) 0), [], []⟩
def d28 : He.DefD := ⟨("ClusterSums", some "__init__"), "__init__", "ClusterSums.__init__", defArgs (inClass (top 35) 0), defBody (inClass (top 35) 0), defScope (inClass (top 35) 0), [], []⟩
def d29 : He.DefD := ⟨("ClusterSums", some "rounds"), "rounds", "ClusterSums.rounds", defArgs (inClass (top 35) 1), defBody (inClass (top 35) 1), defScope (inClass (top 35) 1), [], []⟩
def d30 : He.DefD := ⟨("CutFromColors", some "__init__"), "__init__", "CutFromColors.__init__", defArgs (inClass (top 37) 0), defBody (inClass (top 37) 0), defScope (inClass (top 37) 0), [], []⟩
def d31 : He.DefD := ⟨("CutFromColors", some "rounds"), "rounds", "CutFromColors.rounds", defArgs (inClass (top 37) 1), defBody (inClass (top 37) 1), defScope (inClass (top 37) 1), [], []⟩
def d32 : He.DefD := ⟨("Cut", some "__init__"), "__init__", "Cut.__init__", defArgs (inClass (top 38) 0), defBody (inClass (top 38) 0), defScope (inClass (top 38) 0), [], []⟩
def d33 : He.DefD := ⟨("link_bounds", none), "link_bounds", "link_bounds", defArgs (top 41), defBody (top 41), defScope (top 41), [], []⟩
def d34 : He.DefD := ⟨("OnLinks", some "__init__"), "__init__", "OnLinks.__init__", defArgs (inClass (top 43) 0), defBody (inClass (top 43) 0), defScope (inClass (top 43) 0), [], []⟩
def d35 : He.DefD := ⟨("OnLinks", some "rounds"), "rounds", "OnLinks.rounds", defArgs (inClass (top 43) 1), defBody (inClass (top 43) 1), defScope (inClass (top 43) 1), [], []⟩
def d36 : He.DefD := ⟨("LinkColors", some "__init__"), "__init__", "LinkColors.__init__", defArgs (inClass (top 44) 0), defBody (inClass (top 44) 0), defScope (inClass (top 44) 0), [], []⟩
def d37 : He.DefD := ⟨("MatchingFromColors", some "__init__"), "__init__", "MatchingFromColors.__init__", defArgs (inClass (top 48) 0), defBody (inClass (top 48) 0), defScope (inClass (top 48) 0), [], []⟩
def d38 : He.DefD := ⟨("MatchingFromColors", some "rounds"), "rounds", "MatchingFromColors.rounds", defArgs (inClass (top 48) 1), defBody (inClass (top 48) 1), defScope (inClass (top 48) 1), [], []⟩
def d39 : He.DefD := ⟨("Matching", some "__init__"), "__init__", "Matching.__init__", defArgs (inClass (top 49) 0), defBody (inClass (top 49) 0), defScope (inClass (top 49) 0), [], []⟩
def d40 : He.DefD := ⟨("NamelessCover", some "__init__"), "__init__", "NamelessCover.__init__", defArgs (inClass (top 50) 0), defBody (inClass (top 50) 0), defScope (inClass (top 50) 0), [], []⟩
def d41 : He.DefD := ⟨("NamelessCover", some "rounds"), "rounds", "NamelessCover.rounds", defArgs (inClass (top 50) 1), defBody (inClass (top 50) 1), defScope (inClass (top 50) 1), [], []⟩
def d42 : He.DefD := ⟨("InPieces", some "__init__"), "__init__", "InPieces.__init__", defArgs (inClass (top 52) 0), defBody (inClass (top 52) 0), defScope (inClass (top 52) 0), [], []⟩
def d43 : He.DefD := ⟨("InPieces", some "pieces"), "pieces", "InPieces.pieces", defArgs (inClass (top 52) 1), defBody (inClass (top 52) 1), defScope (inClass (top 52) 1), [], []⟩
def d44 : He.DefD := ⟨("InPieces", some "rounds"), "rounds", "InPieces.rounds", defArgs (inClass (top 52) 2), defBody (inClass (top 52) 2), defScope (inClass (top 52) 2), [], []⟩
def d45 : He.DefD := ⟨("Spread", some "__init__"), "__init__", "Spread.__init__", defArgs (inClass (top 54) 0), defBody (inClass (top 54) 0), defScope (inClass (top 54) 0), [], []⟩
def d46 : He.DefD := ⟨("Spread", some "rounds"), "rounds", "Spread.rounds", defArgs (inClass (top 54) 1), defBody (inClass (top 54) 1), defScope (inClass (top 54) 1), [], []⟩
def d47 : He.DefD := ⟨("_law_cell", none), "_law_cell", "_law_cell", defArgs (top 56), defBody (top 56), defScope (top 56), [], []⟩
def d48 : He.DefD := ⟨("_law_numbers", none), "_law_numbers", "_law_numbers", defArgs (top 57), defBody (top 57), defScope (top 57), [], []⟩
def d49 : He.DefD := ⟨("_law_pool", none), "_law_pool", "_law_pool", defArgs (top 58), defBody (top 58), defScope (top 58), [], []⟩
def d50 : He.DefD := ⟨("_law_draw", none), "_law_draw", "_law_draw", defArgs (top 59), defBody (top 59), defScope (top 59), [], []⟩
def d51 : He.DefD := ⟨("_law_kind", none), "_law_kind", "_law_kind", defArgs (top 60), defBody (top 60), defScope (top 60), [], []⟩
def d52 : He.DefD := ⟨("_law_equal", none), "_law_equal", "_law_equal", defArgs (top 61), defBody (top 61), defScope (top 61), [], []⟩
def d53 : He.DefD := ⟨("_law_binary", none), "_law_binary", "_law_binary", defArgs (top 62), defBody (top 62), defScope (top 62), [], []⟩
def d54 : He.DefD := ⟨("law", none), "law", "law", defArgs (top 63), defBody (top 63), defScope (top 63), [], []⟩
def q0 : Nb.Def × List PySem.Str := (⟨2, 1, 2, b0⟩, ["self", "radius"])
def q1 : Nb.Def × List PySem.Str := (⟨1, 0, 2, b1⟩, ["number", "divisor"])
def q2 : Nb.Def × List PySem.Str := (⟨1, 0, 1, b2⟩, ["number"])
def q3 : Nb.Def × List PySem.Str := (⟨3, 0, 5, b3⟩, ["base", "exponent", "goal", "value", "_"])
def q4 : Nb.Def × List PySem.Str := (⟨3, 0, 4, b4⟩, ["degree", "terms", "colors", "prime"])
def q5 : Nb.Def × List PySem.Str := (⟨2, 0, 5, b5⟩, ["degree", "colors", "best", "terms", "prime"])
def q6 : Nb.Def × List PySem.Str := (⟨1, 0, 6, b6⟩, ["bounds", "degree", "colors", "found", "prime", "_"])
def q7 : Nb.Def × List PySem.Str := (⟨1, 1, 1, b7⟩, ["self"])
def q8 : Nb.Def × List PySem.Str := (⟨2, 0, 2, b8⟩, ["self", "bounds"])
def q9 : Nb.Def × List PySem.Str := (⟨2, 1, 2, b9⟩, ["self", "colors"])
def q10 : Nb.Def × List PySem.Str := (⟨2, 0, 2, b10⟩, ["self", "bounds"])
def q11 : Nb.Def × List PySem.Str := (⟨1, 1, 1, b11⟩, ["self"])
def q12 : Nb.Def × List PySem.Str := (⟨2, 0, 3, b12⟩, ["self", "bounds", "listed"])
def q13 : Nb.Def × List PySem.Str := (⟨3, 1, 3, b13⟩, ["self", "first", "second"])
def q14 : Nb.Def × List PySem.Str := (⟨2, 0, 2, b14⟩, ["self", "bounds"])
def q15 : Nb.Def × List PySem.Str := (⟨1, 1, 1, b15⟩, ["self"])
def q16 : Nb.Def × List PySem.Str := (⟨2, 0, 2, b16⟩, ["self", "bounds"])
def q17 : Nb.Def × List PySem.Str := (⟨1, 1, 1, b17⟩, ["self"])
def q18 : Nb.Def × List PySem.Str := (⟨2, 0, 7, b18⟩, ["bounds", "exponent", "degree", "names", "total", "last", "_"])
def q19 : Nb.Def × List PySem.Str := (⟨3, 1, 3, b19⟩, ["self", "algorithm", "exponent"])
def q20 : Nb.Def × List PySem.Str := (⟨2, 0, 2, b20⟩, ["self", "bounds"])
def q21 : Nb.Def × List PySem.Str := (⟨2, 1, 2, b21⟩, ["self", "exponent"])
def q22 : Nb.Def × List PySem.Str := (⟨1, 0, 1, b22⟩, ["bounds"])
def q23 : Nb.Def × List PySem.Str := (⟨1, 1, 1, b23⟩, ["self"])
def q24 : Nb.Def × List PySem.Str := (⟨2, 0, 2, b24⟩, ["self", "bounds"])
def q25 : Nb.Def × List PySem.Str := (⟨1, 1, 1, b25⟩, ["self"])
def q26 : Nb.Def × List PySem.Str := (⟨2, 0, 2, b26⟩, ["self", "bounds"])
def q27 : Nb.Def × List PySem.Str := (⟨1, 1, 1, b27⟩, ["self"])
def q28 : Nb.Def × List PySem.Str := (⟨1, 1, 1, b28⟩, ["self"])
def q29 : Nb.Def × List PySem.Str := (⟨2, 0, 2, b29⟩, ["self", "bounds"])
def q30 : Nb.Def × List PySem.Str := (⟨1, 1, 1, b30⟩, ["self"])
def q31 : Nb.Def × List PySem.Str := (⟨2, 0, 2, b31⟩, ["self", "bounds"])
def q32 : Nb.Def × List PySem.Str := (⟨1, 1, 1, b32⟩, ["self"])
def q33 : Nb.Def × List PySem.Str := (⟨1, 0, 3, b33⟩, ["bounds", "degree", "names"])
def q34 : Nb.Def × List PySem.Str := (⟨2, 1, 2, b34⟩, ["self", "algorithm"])
def q35 : Nb.Def × List PySem.Str := (⟨2, 0, 2, b35⟩, ["self", "bounds"])
def q36 : Nb.Def × List PySem.Str := (⟨1, 1, 1, b36⟩, ["self"])
def q37 : Nb.Def × List PySem.Str := (⟨1, 1, 1, b37⟩, ["self"])
def q38 : Nb.Def × List PySem.Str := (⟨2, 0, 2, b38⟩, ["self", "bounds"])
def q39 : Nb.Def × List PySem.Str := (⟨1, 1, 1, b39⟩, ["self"])
def q40 : Nb.Def × List PySem.Str := (⟨1, 1, 1, b40⟩, ["self"])
def q41 : Nb.Def × List PySem.Str := (⟨2, 0, 2, b41⟩, ["self", "bounds"])
def q42 : Nb.Def × List PySem.Str := (⟨4, 1, 4, b42⟩, ["self", "algorithm", "size", "length"])
def q43 : Nb.Def × List PySem.Str := (⟨1, 0, 1, b43⟩, ["self"])
def q44 : Nb.Def × List PySem.Str := (⟨2, 0, 2, b44⟩, ["self", "bounds"])
def q45 : Nb.Def × List PySem.Str := (⟨2, 1, 2, b45⟩, ["self", "count"])
def q46 : Nb.Def × List PySem.Str := (⟨2, 0, 2, b46⟩, ["self", "bounds"])
def q47 : Nb.Def × List PySem.Str := (⟨2, 0, 2, b47⟩, ["script", "k"])
def q48 : Nb.Def × List PySem.Str := (⟨2, 0, 6, b48⟩, ["cell", "many", "rows", "left", "k", "mixed"])
def q49 : Nb.Def × List PySem.Str := (⟨1, 0, 3, b49⟩, ["script", "rows", "k"])
def q50 : Nb.Def × List PySem.Str := (⟨2, 1, 4, b50⟩, ["pool", "many", "at", "turn"])
def q51 : Nb.Def × List PySem.Str := (⟨1, 0, 1, b51⟩, ["x"])
def q52 : Nb.Def × List PySem.Str := (⟨2, 0, 3, b52⟩, ["x", "due", "k"])
def q53 : Nb.Def × List PySem.Str := (⟨1, 0, 3, b53⟩, ["number", "digits", "k"])
def q54 : Nb.Def × List PySem.Str := (⟨1, 0, 22, b54⟩, ["script", "pool", "degree", "bounds", "rows", "colors", "k", "q", "due", "digits", "many", "algorithm", "rounds", "exponent", "inner", "whole", "last", "count", "links", "size", "length", "small"])
def fn : List He.DefD := [d0, d1, d2, d3, d4, d5, d6, d7, d8, d9, d10, d11, d12, d13, d14, d15, d16, d17, d18, d19, d20, d21, d22, d23, d24, d25, d26, d27, d28, d29, d30, d31, d32, d33, d34, d35, d36, d37, d38, d39, d40, d41, d42, d43, d44, d45, d46, d47, d48, d49, d50, d51, d52, d53, d54]
def dd : List (Nb.Def × List PySem.Str) := [q0, q1, q2, q3, q4, q5, q6, q7, q8, q9, q10, q11, q12, q13, q14, q15, q16, q17, q18, q19, q20, q21, q22, q23, q24, q25, q26, q27, q28, q29, q30, q31, q32, q33, q34, q35, q36, q37, q38, q39, q40, q41, q42, q43, q44, q45, q46, q47, q48, q49, q50, q51, q52, q53, q54]
def t : Nb.Tb where
  names := (["radius", "named", "is_prime", "prime_from", "reaches", "prime_for", "step_of", "palettes", "colors", "first", "second", "rounds", "power_bounds", "algorithm", "exponent", "gather"] : List PySem.Str) ++ (["digit_count", "clusters", "link_bounds", "piece", "longest", "pieces", "many", "_law_cell", "_law_numbers", "_law_pool", "_law_draw", "_law_kind", "_law_equal", "_law_binary", "law", "Gather"] : List PySem.Str) ++ (["Shrink", "Fewer", "Colors", "Then", "IndependentFromColors", "Independent", "OnPower", "FarColors", "Rulers", "ClustersFromRulers", "Clusters", "ClusterSums", "CutFromColors", "Cut", "OnLinks", "LinkColors"] : List PySem.Str) ++ (["MatchingFromColors", "Matching", "NamelessCover", "InPieces", "Spread"] : List PySem.Str)
  fn := fn
  dd := dd
  glo := ([(2, 1), (3, 2), (4, 3), (5, 4), (6, 5), (7, 6), (12, 18), (16, 22), (18, 33), (23, 47), (24, 48), (25, 49), (26, 50), (27, 51), (28, 52), (29, 53)] : List (Nat × Nat)) ++ ([(30, 54)] : List (Nat × Nat))
  cn := ([31, 32, 33, 34, 35, 36, 37, 38, 39, 40, 41, 42, 43, 44, 45, 46] : List Nat) ++ ([47, 48, 49, 50, 51, 52] : List Nat)
  meth := ([(1, 11, 8), (2, 11, 10), (3, 11, 12), (4, 11, 14), (5, 11, 16), (6, 11, 14), (7, 11, 20), (8, 11, 20), (9, 11, 24), (10, 11, 26), (11, 11, 14), (12, 11, 29), (13, 11, 31), (14, 11, 14), (15, 11, 35), (16, 11, 35)] : List (Nat × Nat × Nat)) ++ ([(17, 11, 38), (18, 11, 14), (19, 11, 41), (20, 21, 43), (20, 11, 44), (21, 11, 46)] : List (Nat × Nat × Nat))
  init := ([(0, 0), (1, 7), (2, 9), (3, 11), (4, 13), (5, 15), (6, 17), (7, 19), (8, 21), (9, 23), (10, 25), (11, 27), (12, 28), (13, 30), (14, 32), (15, 34)] : List (Nat × Nat)) ++ ([(16, 36), (17, 37), (18, 39), (19, 40), (20, 42), (21, 45)] : List (Nat × Nat))
  sup := [(4, 13), (7, 19), (15, 34)]
  flds := ([(0, 0), (0, 1), (1, 1), (2, 8), (2, 1), (3, 1), (4, 9), (4, 10), (4, 1), (5, 1), (6, 9), (6, 10), (6, 1), (7, 13), (7, 14), (7, 15)] : List (Nat × Nat)) ++ ([(7, 1), (8, 13), (8, 14), (8, 15), (8, 1), (9, 1), (10, 1), (11, 9), (11, 10), (11, 1), (12, 17), (12, 1), (13, 1), (14, 9), (14, 10), (14, 1)] : List (Nat × Nat)) ++ ([(15, 13), (15, 1), (16, 13), (16, 1), (17, 1), (18, 9), (18, 10), (18, 1), (19, 1), (20, 13), (20, 19), (20, 20), (20, 1), (21, 22), (21, 1)] : List (Nat × Nat))
  nums := []
  free := ["bool", "int", "isinstance", "len", "list", "max", "min", "range", "str", "tuple"]
  fuel := 100000
def loose : List PySem.Str := (["_wall", "NearbyError", "InvalidInput", "Gather", "known_distances", "known_ball", "sorted_entries", "is_prime", "prime_from", "reaches", "prime_for", "step_of", "palettes", "Shrink", "Fewer", "Colors"] : List PySem.Str) ++ (["Then", "IndependentFromColors", "Independent", "power_bounds", "OnPower", "FarColors", "digit_count", "Rulers", "ClustersFromRulers", "Clusters", "ClusterSums", "CutFromColors", "Cut", "link_name", "link_bounds", "LinkKeeper"] : List PySem.Str) ++ (["OnLinks", "LinkColors", "MatchingFromColors", "Matching", "NamelessCover", "InPieces", "Spread", "_law_cell", "_law_numbers", "_law_pool", "_law_draw", "_law_kind", "_law_equal", "_law_binary", "OFFER", "ANSWER"] : List PySem.Str)
def ln : Nat := 30
def li : Nat := 54
end Lk48
end
section
set_option maxRecDepth 100000
set_option maxHeartbeats 0
namespace HLk48
open Lk48
open PySem PySem.W PySem.Calls PySem.Spec PyProof.Rows L2
abbrev R : PySem.W.OpenRow := PySem.W.OpenLaw.row PySem.Challenge.rw_nearby_k48_whole_rounds_told
abbrev Q : Program := PySem.W.view R.prog [63]
noncomputable abbrev X (w : World) (os : OsState) := HandSHeadRun.endF (HandSHeadRun.stepQ (HandSHeadRun.denQ HandSHeadRun.tabQ) R.prog w) 20000 R.prog w os
noncomputable abbrev hk : PySem.W.Hook := Nb.hookB 2000 t.facts t.fn
def ob (s : PySem.W.SharedT) : Nb.AlB := Nb.obsBG 2000 t.facts t.fn (HandSHeadRun.getT s)
theorem ob_eq (s : PySem.W.SharedT) : ob s = hk.obs s.abs := Nb.obsBG_eq (HandSHeadRun.getT_eq s)
theorem run0 (w : World) : ∀ os : OsState, (X w os).map (fun s => (HandSHeadRun.looksF R.prog (boot_heap w.params) s.abs, HandSHeadRun.seenQ Q loose (importedModules R.prog.main.body) (fun s => PySem.W.xlAt Q [] s && PySem.W.recOk R.toRowW.records s) s.abs)) = some (true, PySem.W.openGood Q loose) := by
  intro os
  kernel_rfl
theorem fa0 (w : World) : ∀ os : OsState, (X w os).map (fun s => Nb.pieceG 2000 (t.facts.take 60) (HandSHeadRun.getT s)) = some true := by
  intro os
  kernel_rfl
theorem fa1 (w : World) : ∀ os : OsState, (X w os).map (fun s => Nb.pieceG 2000 ((t.facts.drop 60).take 60) (HandSHeadRun.getT s)) = some true := by
  intro os
  kernel_rfl
theorem fa2 (w : World) : ∀ os : OsState, (X w os).map (fun s => Nb.pieceG 2000 (((t.facts.drop 60).drop 60).take 60) (HandSHeadRun.getT s)) = some true := by
  intro os
  kernel_rfl
theorem fa3 (w : World) : ∀ os : OsState, (X w os).map (fun s => Nb.pieceG 2000 (((t.facts.drop 60).drop 60).drop 60) (HandSHeadRun.getT s)) = some true := by
  intro os
  kernel_rfl
theorem de0 (w : World) : ∀ os : OsState, (X w os).map (fun s => Nb.defsG 2000 (t.fn.take 30) (HandSHeadRun.getT s)) = some (Nb.valB (t.fn.take 30)) := by
  intro os
  kernel_rfl
theorem de1 (w : World) : ∀ os : OsState, (X w os).map (fun s => Nb.defsG 2000 (t.fn.drop 30) (HandSHeadRun.getT s)) = some (Nb.valB (t.fn.drop 30)) := by
  intro os
  kernel_rfl
theorem run (w : World) : HandSHeadRun.RunEq R Q hk ob 20000 loose w := fun os => Nb.run_pieces (run0 w os) (Nb.run_split 60 (fa0 w os) (Nb.run_split 60 (fa1 w os) (Nb.run_split 60 (fa2 w os) (fa3 w os)))) (Nb.run_dsplit 30 (de0 w os) (de1 w os))
end HLk48
end
section
set_option maxRecDepth 100000
namespace Nb
open PySem PySem.Spec PyProof.Rows L2

/-- where the text's things stand: the written part, names by number, classes, defs -/
structure Cn where
  K : PySem.W.Frag
  nm : Nat → Str
  ca : Nat → Addr
  fa : Nat → Addr
  okc : Nat → Bool
  okf : Nat → Nat → Bool
  inj : ∀ i j, nm i = nm j → i = j
  cls : ∀ C, okc C = true → Cls K (ca C)
  noat : ∀ C f, okf C f = true → NoAttr K (ca C) (nm f)
/-- an instance's attributes are known ones -/
structure InsOk (c : Cn) (C : Nat) (fs : List Nat) : Prop where
  cl : c.okc C = true
  nd : fs.Nodup
  ok : ∀ f ∈ fs, c.okf C f = true

section
variable (c : Cn) (F H : Hp)
mutual
/-- v stands for w: what nobody may write stands in F, what the holder may write stands in H at the addresses fp -/
def Rep : W → V → List Addr → Prop
  | .non, v, fp => v = .non ∧ fp = []
  | .bl b, v, fp => v = .bl b ∧ fp = []
  | .int i, v, fp => v = .int i ∧ fp = []
  | .str x, v, fp => v = .str x ∧ fp = []
  | .fn i, v, fp => v = .ref (c.fa i) ∧ fp = []
  | .tup ws, v, fp => fp = [] ∧ ∃ a vs, v = .ref a ∧ F a = some (.tup vs) ∧ Reps ws vs []
  | .lst false ws, v, fp => fp = [] ∧ ∃ a vs, v = .ref a ∧ F a = some (.lst vs) ∧ Reps ws vs []
  | .lst true ws, v, fp => ∃ a vs f1, v = .ref a ∧ H a = some (.lst vs) ∧ fp = a :: f1 ∧ Reps ws vs f1
  | .dic _ _ _, _, _ => False
  | .ins false C fs ws, v, fp => fp = [] ∧ ∃ a dx vs, v = .ref a ∧ F a = some (.ins (c.ca C) dx ((fs.map c.nm).zip vs)) ∧ fs.length = ws.length ∧ InsOk c C fs ∧ Reps ws vs []
  | .ins true C fs ws, v, fp => ∃ a dx vs f1, v = .ref a ∧ H a = some (.ins (c.ca C) dx ((fs.map c.nm).zip vs)) ∧ fp = a :: f1 ∧ fs.length = ws.length ∧ InsOk c C fs ∧ Reps ws vs f1
  | .set ns, v, fp => fp = [] ∧ ∃ a, v = .ref a ∧ F a = some (.set (fun i => ns.contains i) ns.length)
  | .rng lo hi, v, fp => fp = [] ∧ ∃ a, v = .ref a ∧ F a = some (.rng lo hi)
  | .scr ns, v, fp => fp = [] ∧ ∃ a, v = .ref a ∧ SqL c.K F a (ns.map V.int)
def Reps : List W → List V → List Addr → Prop
  | [], vs, fp => vs = [] ∧ fp = []
  | w :: ws, vs, fp => ∃ v r f1 f2, vs = v :: r ∧ fp = f1 ++ f2 ∧ Rep w v f1 ∧ Reps ws r f2
end
end

theorem Same.sqT {K : PySem.W.Frag} {H H' : Hp} {a : Addr} {xs : List V} (e : Same H H') (h : SqT K H a xs) : SqT K H' a xs := by
  rcases h with (h | ⟨o, h⟩) | h
  · exact .inl (.inl (e _ _ h))
  · exact .inl (.inr ⟨o, e _ _ h⟩)
  · exact .inr h

section
variable {c : Cn} {F F' H H' : Hp}
theorem Reps.len : ∀ {ws : List W} {vs : List V} {fp : List Addr}, Reps c F H ws vs fp → vs.length = ws.length
  | [], _, _, h => by
    obtain ⟨rfl, _⟩ := h
    rfl
  | w :: ws, _, _, h => by
    obtain ⟨v, r, f1, f2, rfl, _, _, h⟩ := h
    simp [Reps.len h]
mutual
/-- the frame rule -/
theorem Rep.fr : ∀ {w : W} {v : V} {fp : List Addr}, Rep c F H w v fp → Same F F' → (∀ a ∈ fp, H' a = H a) → Rep c F' H' w v fp
  | .non, _, _, h, _, _ => h
  | .bl _, _, _, h, _, _ => h
  | .int _, _, _, h, _, _ => h
  | .str _, _, _, h, _, _ => h
  | .fn _, _, _, h, _, _ => h
  | .tup ws, _, _, h, s, k => by
    obtain ⟨e, a, vs, e1, h1, h2⟩ := h
    exact ⟨e, a, vs, e1, s _ _ h1, Reps.fr h2 s (fun _ z => nomatch z)⟩
  | .lst false ws, _, _, h, s, k => by
    obtain ⟨e, a, vs, e1, h1, h2⟩ := h
    exact ⟨e, a, vs, e1, s _ _ h1, Reps.fr h2 s (fun _ z => nomatch z)⟩
  | .lst true ws, _, _, h, s, k => by
    obtain ⟨a, vs, f1, e1, h1, e2, h2⟩ := h
    subst e2
    exact ⟨a, vs, f1, e1, (k a List.mem_cons_self).trans h1, rfl, Reps.fr h2 s fun b hb => k b (List.mem_cons_of_mem _ hb)⟩
  | .dic _ _ _, _, _, h, _, _ => h.elim
  | .ins false C fs ws, _, _, h, s, k => by
    obtain ⟨e, a, dx, vs, e1, h1, l, n, h2⟩ := h
    exact ⟨e, a, dx, vs, e1, s _ _ h1, l, n, Reps.fr h2 s (fun _ z => nomatch z)⟩
  | .ins true C fs ws, _, _, h, s, k => by
    obtain ⟨a, dx, vs, f1, e1, h1, e2, l, n, h2⟩ := h
    subst e2
    exact ⟨a, dx, vs, f1, e1, (k a List.mem_cons_self).trans h1, rfl, l, n, Reps.fr h2 s fun b hb => k b (List.mem_cons_of_mem _ hb)⟩
  | .set ns, _, _, h, s, k => by
    obtain ⟨e, a, e1, h1⟩ := h
    exact ⟨e, a, e1, s _ _ h1⟩
  | .rng lo hi, _, _, h, s, k => by
    obtain ⟨e, a, e1, h1⟩ := h
    exact ⟨e, a, e1, s _ _ h1⟩
  | .scr ns, _, _, h, s, k => by
    obtain ⟨e, a, e1, h1⟩ := h
    exact ⟨e, a, e1, s.seq h1⟩
theorem Reps.fr : ∀ {ws : List W} {vs : List V} {fp : List Addr}, Reps c F H ws vs fp → Same F F' → (∀ a ∈ fp, H' a = H a) → Reps c F' H' ws vs fp
  | [], _, _, h, _, _ => h
  | w :: ws, _, _, h, s, k => by
    obtain ⟨v, r, f1, f2, e1, e2, h1, h2⟩ := h
    subst e2
    exact ⟨v, r, f1, f2, e1, rfl, Rep.fr h1 s fun a ha => k a (List.mem_append_left _ ha), Reps.fr h2 s fun a ha => k a (List.mem_append_right _ ha)⟩
end
mutual
/-- given away for good -/
theorem Rep.frz : ∀ {w : W} {v : V} {fp : List Addr}, Rep c F H w v fp → Same F F' → (∀ a ∈ fp, F' a = H a) → Rep c F' H' w.frz v []
  | .non, _, _, h, _, _ => ⟨h.1, rfl⟩
  | .bl _, _, _, h, _, _ => ⟨h.1, rfl⟩
  | .int _, _, _, h, _, _ => ⟨h.1, rfl⟩
  | .str _, _, _, h, _, _ => ⟨h.1, rfl⟩
  | .fn _, _, _, h, _, _ => ⟨h.1, rfl⟩
  | .tup ws, _, _, h, s, k => by
    obtain ⟨e, a, vs, e1, h1, h2⟩ := h
    exact ⟨rfl, a, vs, e1, s _ _ h1, Reps.frz h2 s (fun _ z => nomatch z)⟩
  | .lst false ws, _, _, h, s, k => by
    obtain ⟨e, a, vs, e1, h1, h2⟩ := h
    exact ⟨rfl, a, vs, e1, s _ _ h1, Reps.frz h2 s (fun _ z => nomatch z)⟩
  | .lst true ws, _, _, h, s, k => by
    obtain ⟨a, vs, f1, e1, h1, e2, h2⟩ := h
    subst e2
    exact ⟨rfl, a, vs, e1, (k a List.mem_cons_self).trans h1, Reps.frz h2 s fun b hb => k b (List.mem_cons_of_mem _ hb)⟩
  | .dic _ _ _, _, _, h, _, _ => h.elim
  | .ins false C fs ws, _, _, h, s, k => by
    obtain ⟨e, a, dx, vs, e1, h1, l, n, h2⟩ := h
    exact ⟨rfl, a, dx, vs, e1, s _ _ h1, by rw [l, frzs_len], n, Reps.frz h2 s (fun _ z => nomatch z)⟩
  | .ins true C fs ws, _, _, h, s, k => by
    obtain ⟨a, dx, vs, f1, e1, h1, e2, l, n, h2⟩ := h
    subst e2
    exact ⟨rfl, a, dx, vs, e1, (k a List.mem_cons_self).trans h1, by rw [l, frzs_len], n, Reps.frz h2 s fun b hb => k b (List.mem_cons_of_mem _ hb)⟩
  | .set ns, _, _, h, s, k => by
    obtain ⟨e, a, e1, h1⟩ := h
    exact ⟨rfl, a, e1, s _ _ h1⟩
  | .rng lo hi, _, _, h, s, k => by
    obtain ⟨e, a, e1, h1⟩ := h
    exact ⟨rfl, a, e1, s _ _ h1⟩
  | .scr ns, _, _, h, s, k => by
    obtain ⟨e, a, e1, h1⟩ := h
    exact ⟨rfl, a, e1, s.seq h1⟩
theorem Reps.frz : ∀ {ws : List W} {vs : List V} {fp : List Addr}, Reps c F H ws vs fp → Same F F' → (∀ a ∈ fp, F' a = H a) → Reps c F' H' (frzs ws) vs []
  | [], _, _, h, _, _ => ⟨h.1, rfl⟩
  | w :: ws, _, _, h, s, k => by
    obtain ⟨v, r, f1, f2, e1, e2, h1, h2⟩ := h
    subst e2
    exact ⟨v, r, [], [], e1, rfl, Rep.frz h1 s fun a ha => k a (List.mem_append_left _ ha), Reps.frz h2 s fun a ha => k a (List.mem_append_right _ ha)⟩
end
mutual
/-- a value without flags has nothing to write -/
theorem Rep.isF : ∀ {w : W} {v : V} {fp : List Addr}, Rep c F H w v fp → w.isF = true → fp = []
  | .non, _, _, h, _ => h.2
  | .bl _, _, _, h, _ => h.2
  | .int _, _, _, h, _ => h.2
  | .str _, _, _, h, _ => h.2
  | .fn _, _, _, h, _ => h.2
  | .tup ws, _, _, h, _ => h.1
  | .lst false ws, _, _, h, _ => h.1
  | .lst true ws, _, _, h, z => by simp [W.isF] at z
  | .dic _ _ _, _, _, h, _ => h.elim
  | .ins false C fs ws, _, _, h, _ => h.1
  | .ins true C fs ws, _, _, h, z => by simp [W.isF] at z
  | .set ns, _, _, h, _ => h.1
  | .rng lo hi, _, _, h, _ => h.1
  | .scr ns, _, _, h, _ => h.1
end
mutual
theorem Rep.ofNil : ∀ {w : W} {v : V}, Rep c F H w v [] → w.frz = w
  | .non, _, _ => rfl
  | .bl _, _, _ => rfl
  | .int _, _, _ => rfl
  | .str _, _, _ => rfl
  | .fn _, _, _ => rfl
  | .tup ws, _, h => by
    obtain ⟨e, a, vs, e1, h1, h2⟩ := h
    simp [W.frz, Reps.ofNil h2]
  | .lst false ws, _, h => by
    obtain ⟨e, a, vs, e1, h1, h2⟩ := h
    simp [W.frz, Reps.ofNil h2]
  | .lst true ws, _, h => by
    obtain ⟨a, vs, f1, e1, h1, e2, h2⟩ := h
    cases e2
  | .dic _ _ _, _, h => h.elim
  | .ins false C fs ws, _, h => by
    obtain ⟨e, a, dx, vs, e1, h1, l, n, h2⟩ := h
    simp [W.frz, Reps.ofNil h2]
  | .ins true C fs ws, _, h => by
    obtain ⟨a, dx, vs, f1, e1, h1, e2, l, n, h2⟩ := h
    cases e2
  | .set ns, _, h => rfl
  | .rng lo hi, _, h => rfl
  | .scr ns, _, h => rfl
theorem Reps.ofNil : ∀ {ws : List W} {vs : List V}, Reps c F H ws vs [] → frzs ws = ws
  | [], _, _ => rfl
  | w :: ws, _, h => by
    obtain ⟨v, r, f1, f2, e1, e2, h1, h2⟩ := h
    obtain ⟨rfl, rfl⟩ := List.append_eq_nil_iff.mp e2.symm
    simp [frzs, Rep.ofNil h1, Reps.ofNil h2]
end
end
end Nb
end
section
set_option maxRecDepth 100000
namespace Nb
open PySem PySem.Spec PyProof.Rows L2

/-! ### weakening -/
section
variable {X : Cx}
theorem pe_mono {e : Expr} {t t' : TE} (h : PE X e t) (k : ∀ σ H Q, t' σ H Q → t σ H Q) : PE X e t' := ⟨fun pins s σ H Q I q => h.run pins s σ H Q I (k σ H Q q)⟩
theorem pt_mono {e : Expr} {t t' : TT} (h : PT X e t) (k : ∀ σ H Q, t' σ H Q → t σ H Q) : PT X e t' := ⟨fun pins s σ H Q I q => h.run pins s σ H Q I (k σ H Q q)⟩
theorem pa_mono {e : List Expr} {t t' : TA} (h : PA X e t) (k : ∀ σ H Q, t' σ H Q → t σ H Q) : PA X e t' := ⟨fun pos pins s σ H Q I q => h.run pos pins s σ H Q I (k σ H Q q)⟩
theorem ps_mono {e : Stmt} {t t' : TS} (h : PS X e t) (k : ∀ D σ H, t' D σ H → t D σ H) : PS X e t' := ⟨fun pins s σ H D I q => h.run pins s σ H D I (k D σ H q)⟩
theorem pss_mono {e : List Stmt} {t t' : TS} (h : PSs X e t) (k : ∀ D σ H, t' D σ H → t D σ H) : PSs X e t' := ⟨fun pins s σ H D I q => h.run pins s σ H D I (k D σ H q)⟩
theorem opr_mono {f : Value → Value → Sem Value} {r r' : R2} (h : OpR X f r) (k : ∀ x y H Q, r' x y H Q → r x y H Q) : OpR X f r' := fun pins s σ H x y v u Q I rx ry q => h pins s σ H x y v u Q I rx ry (k x y H Q q)
theorem unr_mono {f : Value → Sem Value} {r r' : V → Hp → VK → Prop} (h : UnR X f r) (k : ∀ x H Q, r' x H Q → r x H Q) : UnR X f r' := fun pins s σ H x v Q I rx q => h pins s σ H x v Q I rx (k x H Q q)
theorem callr_mono {f : Value} {r r' : List V → Hp → VK → Prop} (h : CallR X f r) (k : ∀ x H Q, r' x H Q → r x H Q) : CallR X f r' := fun pins s σ H x v Q I rx q => h pins s σ H x v Q I rx (k x H Q q)
theorem ixr_mono {r r' : R2} (h : IxR X r) (k : ∀ x y H Q, r' x y H Q → r x y H Q) : IxR X r' := fun va sl pins s σ H x y v u Q I rx ry q => h va sl pins s σ H x y v u Q I rx ry (k x y H Q q)
end

/-! ### the state: what the slots stand for -/
def Disj (a b : List Addr) : Prop := ∀ x ∈ a, x ∉ b
structure Rel (c : Cn) (F H : Hp) (env : Env) (σ : L2.St) (fp : Nat → List Addr) (fr : Addr → Prop) : Prop where
  same : Same F H
  len : env.length = σ.length
  slot : ∀ i w, get env i = some w → ∃ v, σ[i]? = some (some v) ∧ Rep c F H w v (fp i)
  nd : ∀ i, (fp i).Nodup
  dj : ∀ i j, i ≠ j → Disj (fp i) (fp j)
  own : ∀ i, ∀ a ∈ fp i, F a = none ∧ (∃ o, H a = some o) ∧ ¬ fr a
  frm : ∀ a, fr a → F a = none ∧ ∃ o, H a = some o
/-- what a piece of code keeps: F grows, the frame stays, the slots that mu does not name stay (or are given away) -/
structure Aft (F H : Hp) (fp : Nat → List Addr) (fr : Addr → Prop) (mu : Nat → Bool) (F' H' : Hp) (fp' : Nat → List Addr) : Prop where
  ext : Same F F'
  kf : ∀ a, fr a → H' a = H a
  ks : ∀ i, mu i = false → ∀ a ∈ fp i, H' a = H a
  kp : ∀ i, mu i = false → ∀ a ∈ fp i, a ∈ fp' i ∨ ∃ o, F' a = some o
section
variable {c : Cn} {F H F' H' : Hp} {env env' : Env} {σ σ' : L2.St} {fp fp' : Nat → List Addr} {fr fr' : Addr → Prop}
theorem Rel.less (R : Rel c F H env σ fp fr) (h : ∀ a, fr' a → fr a) : Rel c F H env σ fp fr' :=
  ⟨R.same, R.len, R.slot, R.nd, R.dj, fun i a ha => ⟨(R.own i a ha).1, (R.own i a ha).2.1, fun z => (R.own i a ha).2.2 (h a z)⟩, fun a ha => R.frm a (h a ha)⟩
theorem Aft.refl {mu : Nat → Bool} : Aft F H fp fr mu F H fp := ⟨Same.refl F, fun _ _ => rfl, fun _ _ _ _ => rfl, fun _ _ _ h => .inl h⟩
/-- what is given away -/
def ext (F H : Hp) (fpw : List Addr) : Hp := fun a => if a ∈ fpw then H a else F a
theorem ext_same {fpw : List Addr} (h : ∀ a ∈ fpw, F a = none) : Same F (ext F H fpw) := fun a o e => by
  unfold ext
  by_cases q : a ∈ fpw
  · rw [h a q] at e
    cases e
  · rw [if_neg q]
    exact e
theorem ext_in {fpw : List Addr} {a : Addr} (h : a ∈ fpw) : ext F H fpw a = H a := if_pos h
theorem ext_out {fpw : List Addr} {a : Addr} (h : a ∉ fpw) : ext F H fpw a = F a := if_neg h
theorem ext_sub {fpw : List Addr} (s : Same F H) : Same (ext F H fpw) H := fun a o e => by
  by_cases q : a ∈ fpw
  · rw [ext_in q] at e
    exact e
  · rw [ext_out q] at e
    exact s a o e
/-- a value in hand is given away -/
theorem Rel.give {fpw : List Addr} (R : Rel c F H env σ fp (fun a => a ∈ fpw ∨ fr a)) (nf : ∀ a ∈ fpw, ¬ fr a) : Rel c (ext F H fpw) H env σ fp fr := by
  have ex : Same F (ext F H fpw) := ext_same fun a ha => (R.frm a (.inl ha)).1
  refine ⟨ext_sub R.same, R.len, fun i w e => ?_, R.nd, R.dj, fun i a ha => ?_, fun a ha => ?_⟩
  · obtain ⟨v, h1, h2⟩ := R.slot i w e
    exact ⟨v, h1, h2.fr ex fun _ _ => rfl⟩
  · obtain ⟨h1, h2, h3⟩ := R.own i a ha
    refine ⟨?_, h2, fun z => h3 (.inr z)⟩
    rw [ext_out fun z => h3 (.inl z)]
    exact h1
  · obtain ⟨h1, h2⟩ := R.frm a (.inr ha)
    refine ⟨?_, h2⟩
    rw [ext_out fun z => nf a z ha]
    exact h1
theorem get_set_self {env : Env} {i : Nat} {w : W} (h : i < env.length) : get (env.set i (some w)) i = some w := by
  unfold get
  rw [List.getElem?_set_self h]
theorem get_set_ne {env : Env} {i j : Nat} {o : Option W} (h : j ≠ i) : get (env.set i o) j = get env j := by
  unfold get
  rw [List.getElem?_set_ne (Ne.symm h)]
theorem get_lt {env : Env} {i : Nat} {w : W} (h : get env i = some w) : i < env.length := by
  unfold get at h
  by_cases q : i < env.length
  · exact q
  · rw [List.getElem?_eq_none (by omega)] at h
    cases h
theorem get_set_none {env : Env} {i j : Nat} {w : W} (h : get (env.set i none) j = some w) : j ≠ i ∧ get env j = some w := by
  by_cases q : j = i
  · subst q
    exfalso
    unfold get at h
    by_cases l : j < env.length
    · rw [List.getElem?_set_self l] at h
      cases h
    · rw [List.getElem?_eq_none (by simpa using l)] at h
      cases h
  · rw [get_set_ne q] at h
    exact ⟨q, h⟩
/-- one slot's footprint replaced -/
def fset (fp : Nat → List Addr) (i : Nat) (l : List Addr) : Nat → List Addr := fun j => if j = i then l else fp j
theorem fset_self {i : Nat} {l : List Addr} : fset fp i l i = l := if_pos rfl
theorem fset_ne {i j : Nat} {l : List Addr} (h : j ≠ i) : fset fp i l j = fp j := if_neg h
/-- a slot is given away where it stands -/
theorem Rel.giveSlot {i : Nat} {w : W} (R : Rel c F H env σ fp fr) (e : get env i = some w) : Rel c (ext F H (fp i)) H (env.set i (some w.frz)) σ (fset fp i []) fr := by
  have ex : Same F (ext F H (fp i)) := ext_same fun a ha => (R.own i a ha).1
  refine ⟨ext_sub R.same, by rw [List.length_set]; exact R.len, fun j u q => ?_, fun j => ?_, fun j k n => ?_, fun j a ha => ?_, fun a ha => ?_⟩
  · by_cases z : j = i
    · subst z
      rw [get_set_self (get_lt e)] at q
      cases q
      obtain ⟨v, h1, h2⟩ := R.slot j w e
      refine ⟨v, h1, ?_⟩
      rw [fset_self]
      exact h2.frz ex fun a ha => ext_in ha
    · rw [get_set_ne z] at q
      obtain ⟨v, h1, h2⟩ := R.slot j u q
      refine ⟨v, h1, ?_⟩
      rw [fset_ne z]
      exact h2.fr ex fun _ _ => rfl
  · by_cases z : j = i
    · rw [z, fset_self]
      exact .nil
    · rw [fset_ne z]
      exact R.nd j
  · by_cases z : j = i
    · rw [z, fset_self]
      exact fun x hx => nomatch hx
    · rw [fset_ne z]
      by_cases y : k = i
      · rw [y, fset_self]
        exact fun x _ hx => nomatch hx
      · rw [fset_ne y]
        exact R.dj j k n
  · by_cases z : j = i
    · rw [z, fset_self] at ha
      exact nomatch ha
    · rw [fset_ne z] at ha
      obtain ⟨h1, h2, h3⟩ := R.own j a ha
      refine ⟨?_, h2, h3⟩
      rw [ext_out fun y => R.dj j i z a ha y]
      exact h1
  · obtain ⟨h1, h2⟩ := R.frm a ha
    refine ⟨?_, h2⟩
    rw [ext_out fun y => (R.own i a y).2.2 ha]
    exact h1
end

/-! ### pure expressions: what is checked, what is meant -/
/-- what the checker knows of the place: names by slot, the scope, names whose cells are the frame's own, names by number, free names, constants -/
structure Pl where
  N : List Str
  sc : Scope
  fn : Str → Bool
  nm : Nat → Str
  free : List Str
  mis : List (Nat × Int)
  defs : List (Nat × Nat)
  clss : List (Nat × Nat)
def visB (p : Pl) (x : Str) : Bool := match p.sc.names.lookup x with
  | some .local => true
  | some .cell => true
  | some .free => true
  | _ => false
def gloB (p : Pl) (x : Str) : Bool := match p.sc.names.lookup x with
  | some .globalImplicit => true
  | _ => false
def noDbg (x : Str) : Bool := !(x == ("__debug__" : Str)) && (!(x == ("__classdict__" : Str)) && !(x == ("__name__" : Str)))
structure XOk (p : Pl) (c : Cn) (X : Cx) : Prop where
  K : X.K = c.K
  N : X.N = p.N
  nd : p.N.Nodup
  sc : X.env.scope = p.sc
  calm : X.calm = true
  fn : ∀ x, p.fn x = true → X.fn x = true
  nm : p.nm = c.nm
  free : ∀ x, p.free.contains x = true → X.mg x = none
  mis : ∀ q ∈ p.mis, ∃ t, X.mg (c.nm q.1) = some (.int q.2 t)
  room : X.A.units + 100 < cLine
/-- the P forms' meaning as a reading -/
def tP (c : Cn) (p : P) : TE := fun σ H Q => ∃ F env fp fr w, Rel c F H env σ fp fr ∧ evP env p = some w ∧ ∀ v fpw, Rep c F H w v fpw → Q v H
/-- an operation by values -/
def rO (c : Cn) (o : O) (vs : List V) (H : Hp) (Q : VK) : Prop := ∃ F ws fp w, Same F H ∧ Reps c F H ws vs fp ∧ opF o ws = some w ∧ ∀ v fpw, Rep c F H w v fpw → Q v H
def cstB : W → Const → Bool
  | .non, .none => true
  | .bl b, .bool d => b == d
  | .int i, .int j => decide (i = j)
  | .str x, .str y => decide (x = y)
  | _, _ => false
theorem cst_ok {c : Cn} {X : Cx} {w : W} {k : Const} {j : Nat} {pos : Pos} (h : cstB w k = true) : ∃ v, PE X (.Constant k j pos) (tC v) ∧ ∀ F H, Rep c F H w v [] := by
  cases w <;> cases k <;> first | (cases h; done) | skip
  · exact ⟨.non, pe_non, fun _ _ => ⟨rfl, rfl⟩⟩
  · rename_i b d
    have e : b = d := beq_iff_eq.mp h
    exact ⟨.bl d, pe_bl, fun _ _ => ⟨by rw [e], rfl⟩⟩
  · rename_i b d
    have e : b = d := of_decide_eq_true h
    exact ⟨.int d, pe_int, fun _ _ => ⟨by rw [e], rfl⟩⟩
  · rename_i b d
    have e : b = d := of_decide_eq_true h
    exact ⟨.str d, pe_str, fun _ _ => ⟨by rw [e], rfl⟩⟩
def goodH : Expr → Bool
  | .Starred _ _ => false
  | .Slice _ _ _ _ => false
  | .Call (.Name x _) [] [] _ => !(x == ("super" : Str))
  | _ => true
theorem goodH_star {e : Expr} {es : List Expr} {env : PySem.Env} (h : goodH e = true) : starEach (e :: es) env = (false, eval e env) :: starEach es env := by
  cases e <;> first | rfl | (cases h; done)
theorem goodH_ix {e : Expr} (h : goodH e = true) : PlainIx e := by
  intro o i
  cases e <;> first | rfl | (cases h; done)
theorem goodH_attr {e : Expr} {f : Str} {env : PySem.Env} {t : Sem Value} (h : goodH e = true) : attributeBase e f env t = t := by
  cases e <;> try rfl
  rename_i g as ks pos
  cases g <;> try rfl
  rename_i x p
  cases as <;> cases ks <;> first | rfl | skip
  have hx : (x == ("super" : Str)) = false := by simpa [goodH] using h
  unfold attributeBase
  have h2 : (x != ("super" : Str)) = true := by rw [bne, hx]; rfl
  simp only [h2, Bool.true_or, if_true]
end Nb
end
section
set_option maxRecDepth 100000
namespace Nb
open PySem PySem.Spec PyProof.Rows L2

/-! ### reading operations backwards -/
theorem ii_inv {f : Int → Int → Option W} {ws : List W} {w : W} (h : ii f ws = some w) : ∃ i j, ws = [.int i, .int j] ∧ f i j = some w := by
  unfold ii at h
  split at h
  · exact ⟨_, _, rfl, h⟩
  · cases h
theorem i1_inv {f : Int → Option W} {ws : List W} {w : W} (h : i1 f ws = some w) : ∃ i, ws = [.int i] ∧ f i = some w := by
  unfold i1 at h
  split at h
  · exact ⟨_, rfl, h⟩
  · cases h
theorem w1_inv {f : W → Option W} {ws : List W} {w : W} (h : w1 f ws = some w) : ∃ x, ws = [x] ∧ f x = some w := by
  unfold w1 at h
  split at h
  · exact ⟨_, rfl, h⟩
  · cases h
theorem w2_inv {f : W → W → Option W} {ws : List W} {w : W} (h : w2 f ws = some w) : ∃ x y, ws = [x, y] ∧ f x y = some w := by
  unfold w2 at h
  split at h
  · exact ⟨_, _, rfl, h⟩
  · cases h
theorem guardO_inv {α : Type} {b : Bool} {x : Option α} {a : α} (h : guardO b x = some a) : b = true ∧ x = some a := by
  cases b with
  | true => exact ⟨rfl, h⟩
  | false => cases h
theorem and2 {a b : Bool} (h : (a && b) = true) : a = true ∧ b = true := Bool.and_eq_true_iff.mp h
section
variable {c : Cn} {F H : Hp}
theorem reps1 {w : W} {vs : List V} {fp : List Addr} (h : Reps c F H [w] vs fp) : ∃ v f, vs = [v] ∧ Rep c F H w v f := by
  obtain ⟨v, r, f1, f2, e1, e2, h1, h2⟩ := h
  obtain ⟨e3, _⟩ := h2
  exact ⟨v, f1, by rw [e1, e3], h1⟩
theorem reps2 {w u : W} {vs : List V} {fp : List Addr} (h : Reps c F H [w, u] vs fp) : ∃ v x f g, vs = [v, x] ∧ Rep c F H w v f ∧ Rep c F H u x g := by
  obtain ⟨v, r, f1, f2, e1, e2, h1, h2⟩ := h
  obtain ⟨x, g, e3, h3⟩ := reps1 h2
  exact ⟨v, x, f1, g, by rw [e1, e3], h1, h3⟩
theorem fit64_ok {i : Int} (h : fit64 i = true) : -(2 ^ 64) < i ∧ i < 2 ^ 64 := by
  obtain ⟨h1, h2⟩ := and2 h
  exact ⟨of_decide_eq_true h1, of_decide_eq_true h2⟩
end
/-! ### operators -/
def binO : O → Option Operator
  | .add => some .Add
  | .sub => some .Sub
  | .mul => some .Mult
  | .fdiv => some .FloorDiv
  | .mod => some .Mod
  | .pow => some .Pow
  | .shl => some .LShift
  | .shr => some .RShift
  | _ => none
section
variable {c : Cn} {X : Cx}
theorem v_ii {f : Value → Value → Sem Value} {o : O} {g : Int → Int → Option W} {r : R2} (h : OpR X f r) (ho : opF o = ii g)
    (k : ∀ i j w, g i j = some w → ∃ v, (∀ F H, Rep c F H w v []) ∧ ∀ H Q, Q v H → r (.int i) (.int j) H Q) : OpR X f (fun x y H Q => rO c o [x, y] H Q) := by
  refine opr_mono h fun x y H Q q => ?_
  obtain ⟨F, ws, fp, w, sm, rp, e, kk⟩ := q
  rw [ho] at e
  obtain ⟨i, j, rfl, e2⟩ := ii_inv e
  obtain ⟨v, u, f, g, e3, r1, r2⟩ := reps2 rp
  obtain ⟨rfl, rfl⟩ : x = v ∧ y = u := by simpa using e3
  obtain ⟨rfl, _⟩ := r1
  obtain ⟨rfl, _⟩ := r2
  obtain ⟨v, hv, hq⟩ := k i j w e2
  exact hq H Q (kk v [] (hv F H))
theorem rep_int {i : Int} (F H : Hp) : Rep c F H (.int i) (.int i) [] := ⟨rfl, rfl⟩
theorem rep_bl {i : Bool} (F H : Hp) : Rep c F H (.bl i) (.bl i) [] := ⟨rfl, rfl⟩
theorem v_bin : ∀ {o : O} {op : Operator}, binO o = some op → OpR X (binaryOp op) (fun x y H Q => rO c o [x, y] H Q)
  | .add, _, rfl => v_ii op_add rfl fun i j w e => by cases e; exact ⟨_, rep_int, fun H Q q => ⟨i, j, rfl, rfl, q⟩⟩
  | .sub, _, rfl => v_ii op_sub rfl fun i j w e => by cases e; exact ⟨_, rep_int, fun H Q q => ⟨i, j, rfl, rfl, q⟩⟩
  | .mul, _, rfl => v_ii op_mul rfl fun i j w e => by
    obtain ⟨b, e4⟩ := guardO_inv e
    cases e4
    refine ⟨_, rep_int, fun H Q q => ⟨i, j, rfl, rfl, ?_, q⟩⟩
    rcases Bool.or_eq_true_iff.mp b with b | b
    · exact .inl (fit64_ok b)
    · exact .inr (fit64_ok b)
  | .fdiv, _, rfl => v_ii op_fdiv rfl fun i j w e => by
    obtain ⟨b, e4⟩ := guardO_inv e
    cases e4
    obtain ⟨b1, b2⟩ := and2 b
    exact ⟨_, rep_int, fun H Q q => ⟨i, j, rfl, rfl, ⟨of_decide_eq_true b1, of_decide_eq_true b2⟩, q⟩⟩
  | .mod, _, rfl => v_ii op_mod rfl fun i j w e => by
    obtain ⟨b, e4⟩ := guardO_inv e
    cases e4
    exact ⟨_, rep_int, fun H Q q => ⟨i, j, rfl, rfl, of_decide_eq_true b, q⟩⟩
  | .pow, _, rfl => v_ii op_pow rfl fun i j w e => by
    obtain ⟨b, e4⟩ := guardO_inv e
    cases e4
    obtain ⟨b1, b2⟩ := and2 b
    obtain ⟨b2, b3⟩ := and2 b2
    exact ⟨_, rep_int, fun H Q q => ⟨i, j, rfl, rfl, ⟨of_decide_eq_true b1, of_decide_eq_true b2, of_decide_eq_true b3⟩, q⟩⟩
  | .shl, _, rfl => v_ii op_shl rfl fun i j w e => by
    obtain ⟨b, e4⟩ := guardO_inv e
    cases e4
    obtain ⟨b1, b2⟩ := and2 b
    obtain ⟨b2, b3⟩ := and2 b2
    exact ⟨_, rep_int, fun H Q q => ⟨i, j, rfl, rfl, ⟨of_decide_eq_true b1, of_decide_eq_true b2, of_decide_eq_true b3⟩, q⟩⟩
  | .shr, _, rfl => v_ii op_shr rfl fun i j w e => by
    obtain ⟨b, e4⟩ := guardO_inv e
    cases e4
    exact ⟨_, rep_int, fun H Q q => ⟨i, j, rfl, rfl, of_decide_eq_true b, q⟩⟩
theorem v_neg : UnR X (unaryOp .USub) (fun x H Q => rO c .neg [x] H Q) := by
  refine unr_mono un_neg fun x H Q q => ?_
  obtain ⟨F, ws, fp, w, sm, rp, e, k⟩ := q
  obtain ⟨i, rfl, e2⟩ := i1_inv e
  obtain ⟨v, f, e3, r1⟩ := reps1 rp
  obtain ⟨rfl⟩ : x = v := by simpa using e3
  obtain ⟨rfl, _⟩ := r1
  cases e2
  exact ⟨i, rfl, k _ [] ⟨rfl, rfl⟩⟩
end
/-! ### data -/
mutual
def W.py : W → PyData
  | .non => .none | .bl b => .bool b | .int i => .int i | .str x => .str x
  | .tup ws => .tuple (pys ws)
  | .lst _ ws => .list (pys ws)
  | _ => .none
def pys : List W → List PyData
  | [] => []
  | w :: ws => w.py :: pys ws
end
mutual
theorem py_eqv : ∀ {n m : Nat} {x y : W}, x.ok n = true → y.ok m = true → PyData.eqv x.py y.py = x.eqv y
  | _, _, .non, y, _, h => by cases y <;> first | rfl | (rename_i m _ _; cases m <;> cases h) | (rename_i m _ _ _; cases m <;> cases h) | (rename_i m _ _ _ _; cases m <;> cases h) | (rename_i m _; cases m <;> cases h)
  | _, _, .bl a, y, _, h => by cases y <;> first | rfl | (rename_i m _ _; cases m <;> cases h) | (rename_i m _ _ _; cases m <;> cases h) | (rename_i m _ _ _ _; cases m <;> cases h) | (rename_i m _; cases m <;> cases h)
  | _, _, .int a, y, _, h => by cases y <;> first | rfl | (rename_i m _ _; cases m <;> cases h) | (rename_i m _ _ _; cases m <;> cases h) | (rename_i m _ _ _ _; cases m <;> cases h) | (rename_i m _; cases m <;> cases h)
  | _, _, .str a, y, _, h => by cases y <;> first | rfl | (rename_i m _ _; cases m <;> cases h) | (rename_i m _ _ _; cases m <;> cases h) | (rename_i m _ _ _ _; cases m <;> cases h) | (rename_i m _; cases m <;> cases h)
  | n + 1, m, .tup xs, y, h1, h => by
    cases y <;> first | rfl | (cases m <;> cases h; done) | skip
    rename_i ys
    cases m with
    | zero => cases h
    | succ m => exact pys_eqv h1 h
  | n + 1, m, .lst o xs, y, h1, h => by
    cases y <;> first | rfl | (cases m <;> cases h; done) | skip
    rename_i p ys
    cases m with
    | zero => cases h
    | succ m => exact pys_eqv h1 h
  | 0, _, .tup _, _, h, _ => by cases h
  | 0, _, .lst _ _, _, h, _ => by cases h
  | n, _, .fn _, _, h, _ => by cases n <;> cases h
  | n, _, .dic _ _ _, _, h, _ => by cases n <;> cases h
  | n, _, .ins _ _ _ _, _, h, _ => by cases n <;> cases h
  | n, _, .set _, _, h, _ => by cases n <;> cases h
  | n, _, .rng _ _, _, h, _ => by cases n <;> cases h
  | n, _, .scr _, _, h, _ => by cases n <;> cases h
theorem pys_eqv : ∀ {n m : Nat} {xs ys : List W}, oks n xs = true → oks m ys = true → PyData.eqvAll (pys xs) (pys ys) = eqvs xs ys
  | _, _, [], [], _, _ => rfl
  | _, _, [], _ :: _, _, _ => rfl
  | _, _, _ :: _, [], _, _ => rfl
  | n, m, x :: xs, y :: ys, h1, h2 => by
    obtain ⟨a1, a2⟩ := and2 h1
    obtain ⟨b1, b2⟩ := and2 h2
    show (PyData.eqv x.py y.py && PyData.eqvAll (pys xs) (pys ys)) = (x.eqv y && eqvs xs ys)
    rw [py_eqv a1 b1, pys_eqv a2 b2]
end
end Nb
end
section
set_option maxRecDepth 100000
namespace Nb
open PySem PySem.Spec PyProof.Rows L2
mutual
theorem py_lay : ∀ {n : Nat} {x : W}, x.ok n = true → x.py.canLay0 = true ∧ x.py.depth ≤ n
  | _, .non, _ => ⟨rfl, Nat.zero_le _⟩
  | _, .bl _, _ => ⟨rfl, Nat.zero_le _⟩
  | _, .int _, _ => ⟨rfl, Nat.zero_le _⟩
  | n, .str x, h => by
    refine ⟨?_, Nat.zero_le _⟩
    have h2 : x.cps.all (· < 0x110000) = true := by cases n <;> exact h
    simpa [W.py, PyData.canLay0, PyData.strOk] using h2
  | n + 1, .tup xs, h => by
    obtain ⟨a, b⟩ := pys_lay (n := n) (xs := xs) h
    exact ⟨a, Nat.succ_le_succ b⟩
  | n + 1, .lst _ xs, h => by
    obtain ⟨a, b⟩ := pys_lay (n := n) (xs := xs) h
    exact ⟨a, Nat.succ_le_succ b⟩
  | 0, .tup _, h => by cases h
  | 0, .lst _ _, h => by cases h
  | n, .fn _, h => by cases n <;> cases h
  | n, .dic _ _ _, h => by cases n <;> cases h
  | n, .ins _ _ _ _, h => by cases n <;> cases h
  | n, .set _, h => by cases n <;> cases h
  | n, .rng _ _, h => by cases n <;> cases h
  | n, .scr _, h => by cases n <;> cases h
theorem pys_lay : ∀ {n : Nat} {xs : List W}, oks n xs = true → PyData.canLayAll0 (pys xs) = true ∧ PyData.depthAll (pys xs) ≤ n
  | _, [], _ => ⟨rfl, Nat.zero_le _⟩
  | n, x :: xs, h => by
    obtain ⟨a1, a2⟩ := and2 h
    obtain ⟨b1, b2⟩ := py_lay a1
    obtain ⟨c1, c2⟩ := pys_lay a2
    refine ⟨?_, ?_⟩
    · show (PyData.canLay0 x.py && PyData.canLayAll0 (pys xs)) = true
      rw [b1, c1] <;> rfl
    · show max (PyData.depth x.py) (PyData.depthAll (pys xs)) ≤ n
      omega
end
theorem py_shaped {n : Nat} {x : W} (h : x.ok n = true) (hn : n ≤ 64) : SeqAt.shaped x.py = true := by
  obtain ⟨a, b⟩ := py_lay h
  unfold SeqAt.shaped
  rw [a, decide_eq_true (by omega)]
  rfl
section
variable {c : Cn} {F H : Hp}
mutual
theorem rep_dp (s : Same F H) : ∀ {n : Nat} {x : W} {v : V} {fp : List Addr}, Rep c F H x v fp → x.ok n = true → Dp c.K H v x.py
  | _, .non, _, _, r, _ => by obtain ⟨rfl, _⟩ := r; exact .non
  | _, .bl _, _, _, r, _ => by obtain ⟨rfl, _⟩ := r; exact .bl _
  | _, .int _, _, _, r, _ => by obtain ⟨rfl, _⟩ := r; exact .int _
  | _, .str _, _, _, r, _ => by obtain ⟨rfl, _⟩ := r; exact .str _
  | n + 1, .tup xs, _, _, r, h => by
    obtain ⟨_, a, vs, rfl, e, rs⟩ := r
    exact .tup (SqT.of (s _ _ e)) (reps_dp s rs h)
  | n + 1, .lst false xs, _, _, r, h => by
    obtain ⟨_, a, vs, rfl, e, rs⟩ := r
    exact .lst (SqL.of (s _ _ e)) (reps_dp s rs h)
  | n + 1, .lst true xs, _, _, r, h => by
    obtain ⟨a, vs, f1, rfl, e, _, rs⟩ := r
    exact .lst (SqL.of e) (reps_dp s rs h)
  | 0, .tup _, _, _, _, h => by cases h
  | 0, .lst _ _, _, _, _, h => by cases h
  | n, .fn _, _, _, _, h => by cases n <;> cases h
  | n, .dic _ _ _, _, _, _, h => by cases n <;> cases h
  | n, .ins _ _ _ _, _, _, _, h => by cases n <;> cases h
  | n, .set _, _, _, _, h => by cases n <;> cases h
  | n, .rng _ _, _, _, _, h => by cases n <;> cases h
  | n, .scr _, _, _, _, h => by cases n <;> cases h
theorem reps_dp (s : Same F H) : ∀ {n : Nat} {xs : List W} {vs : List V} {fp : List Addr}, Reps c F H xs vs fp → oks n xs = true → DpAll c.K H vs (pys xs)
  | _, [], _, _, r, _ => by obtain ⟨rfl, _⟩ := r; exact .nil
  | n, x :: xs, _, _, r, h => by
    obtain ⟨v, t, f1, f2, rfl, _, r1, r2⟩ := r
    obtain ⟨a1, a2⟩ := and2 h
    exact .cons (rep_dp s r1 a1) (reps_dp s r2 a2)
end
theorem ok0_flat {x : W} {v : V} {fp : List Addr} (r : Rep c F H x v fp) (h : x.ok 0 = true) : flatV v = true := by
  cases x <;> first | (cases h; done) | (obtain ⟨rfl, _⟩ := r; rfl)
theorem oks0_flat : ∀ {xs : List W} {vs : List V} {fp : List Addr}, Reps c F H xs vs fp → oks 0 xs = true → vs.all flatV = true
  | [], _, _, r, _ => by obtain ⟨rfl, _⟩ := r; rfl
  | x :: xs, _, _, r, h => by
    obtain ⟨v, t, f1, f2, rfl, _, r1, r2⟩ := r
    obtain ⟨a1, a2⟩ := and2 h
    show (flatV v && t.all flatV) = true
    rw [ok0_flat r1 a1, oks0_flat r2 a2] <;> rfl
theorem ok0_eqv {x y : W} {v u : V} {f g : List Addr} (r : Rep c F H x v f) (q : Rep c F H y u g) (h : x.ok 0 = true) (k : y.ok 0 = true) : eqV v u = x.eqv y := by
  cases x <;> first | (cases h; done) | skip
  all_goals (
    obtain ⟨rfl, _⟩ := r
    cases y <;> first | (cases k; done) | skip
    all_goals (
      obtain ⟨rfl, _⟩ := q
      first | rfl | skip))
  all_goals (
    rename_i a b
    show (a == b) = decide (a = b)
    rw [Bool.beq_eq_decide_eq])
theorem oks0_mem {x : W} {v : V} {f : List Addr} (r : Rep c F H x v f) (h : x.ok 0 = true) : ∀ {xs : List W} {vs : List V} {fp : List Addr}, Reps c F H xs vs fp → oks 0 xs = true → inV v vs = memW x xs
  | [], _, _, q, _ => by obtain ⟨rfl, _⟩ := q; rfl
  | y :: xs, _, _, q, k => by
    obtain ⟨u, t, f1, f2, rfl, _, r1, r2⟩ := q
    obtain ⟨a1, a2⟩ := and2 k
    show (eqV u v || inV v t) = (y.eqv x || memW x xs)
    rw [ok0_eqv r1 r a1 h, oks0_mem r h r2 a2]
theorem mem_pys {x : W} {n m : Nat} (h : x.ok n = true) : ∀ {xs : List W}, oks m xs = true → ((pys xs).any fun z => PyData.eqv z x.py) = memW x xs
  | [], _ => rfl
  | y :: xs, k => by
    obtain ⟨a1, a2⟩ := and2 k
    show (PyData.eqv y.py x.py || (pys xs).any _) = (y.eqv x || memW x xs)
    rw [py_eqv a1 h, mem_pys h a2]
end
/-! ### comparisons -/
def cmpO : O → Option CmpOp
  | .eq => some .Eq
  | .ne => some .NotEq
  | .lt => some .Lt
  | .le => some .LtE
  | .gt => some .Gt
  | .ge => some .GtE
  | .isN => some .Is
  | .notN => some .IsNot
  | .isB => some .Is
  | .notB => some .IsNot
  | .inn => some .In
  | .ninn => some .NotIn
  | _ => none
section
variable {c : Cn} {X : Cx}
theorem v_w2 {f : Value → Value → Sem Value} {o : O} {g : W → W → Option W} {r : R2} (h : OpR X f r) (ho : opF o = w2 g)
    (k : ∀ x y w, g x y = some w → ∀ F H v u fv fu Q, Same F H → Rep c F H x v fv → Rep c F H y u fu → (∀ z fpw, Rep c F H w z fpw → Q z H) → r v u H Q) : OpR X f (fun x y H Q => rO c o [x, y] H Q) := by
  refine opr_mono h fun x y H Q q => ?_
  obtain ⟨F, ws, fp, w, sm, rp, e, kk⟩ := q
  rw [ho] at e
  obtain ⟨i, j, rfl, e2⟩ := w2_inv e
  obtain ⟨v, u, f, g, e3, r1, r2⟩ := reps2 rp
  obtain ⟨rfl, rfl⟩ : x = v ∧ y = u := by simpa using e3
  exact k i j w e2 F H x y f g Q sm r1 r2 kk
theorem non_of {x : W} {F H : Hp} {v : V} {fp : List Addr} (r : Rep c F H x v fp) : decide (v = .non) = isNon x := by
  cases x <;> first
    | (obtain ⟨rfl, _⟩ := r; rfl)
    | (obtain ⟨rfl, _⟩ := r; simp [isNon]; done)
    | exact r.elim
    | skip
  · obtain ⟨_, a, vs, rfl, _⟩ := r
    simp [isNon]
  · rename_i o ws
    cases o
    · obtain ⟨_, a, vs, rfl, _⟩ := r
      simp [isNon]
    · obtain ⟨a, vs, f1, rfl, _⟩ := r
      simp [isNon]
  · rename_i o C fs ws
    cases o
    · obtain ⟨_, a, dx, vs, rfl, _⟩ := r
      simp [isNon]
    · obtain ⟨a, dx, vs, f1, rfl, _⟩ := r
      simp [isNon]
  · obtain ⟨_, a, rfl, _⟩ := r
    simp [isNon]
  · obtain ⟨_, a, rfl, _⟩ := r
    simp [isNon]
  · obtain ⟨_, a, rfl, _⟩ := r
    simp [isNon]
theorem bl_of {x : W} {F H : Hp} {v : V} {fp : List Addr} {b : Bool} (e : x = .bl b) (r : Rep c F H x v fp) : v = .bl b := by
  subst e
  exact r.1
theorem v_cmp (hK : X.K = c.K) (hu : X.A.units + 100 < cLine) : ∀ {o : O} {op : CmpOp}, cmpO o = some op → OpR X (compareOp op) (fun x y H Q => rO c o [x, y] H Q)
  | .lt, _, rfl => v_ii op_lt rfl fun i j w e => by cases e; exact ⟨_, rep_bl, fun H Q q => ⟨i, j, rfl, rfl, q⟩⟩
  | .le, _, rfl => v_ii op_le rfl fun i j w e => by cases e; exact ⟨_, rep_bl, fun H Q q => ⟨i, j, rfl, rfl, q⟩⟩
  | .gt, _, rfl => v_ii op_gt rfl fun i j w e => by cases e; exact ⟨_, rep_bl, fun H Q q => ⟨i, j, rfl, rfl, q⟩⟩
  | .ge, _, rfl => v_ii op_ge rfl fun i j w e => by cases e; exact ⟨_, rep_bl, fun H Q q => ⟨i, j, rfl, rfl, q⟩⟩
  | .eq, _, rfl => v_w2 (op_eqD (by omega)) rfl fun x y w e F H v u fv fu Q s r1 r2 k => by
    obtain ⟨b, e4⟩ := guardO_inv e
    cases e4
    obtain ⟨b1, b2⟩ := and2 b
    rw [hK]
    refine ⟨x.py, y.py, rep_dp s r1 b1, rep_dp s r2 b2, py_shaped b1 (by decide), py_shaped b2 (by decide), ?_⟩
    rw [py_eqv b1 b2]
    exact k _ [] (rep_bl F H)
  | .ne, _, rfl => v_w2 (op_neD (by omega)) rfl fun x y w e F H v u fv fu Q s r1 r2 k => by
    obtain ⟨b, e4⟩ := guardO_inv e
    cases e4
    obtain ⟨b1, b2⟩ := and2 b
    rw [hK]
    refine ⟨x.py, y.py, rep_dp s r1 b1, rep_dp s r2 b2, py_shaped b1 (by decide), py_shaped b2 (by decide), ?_⟩
    rw [py_eqv b1 b2]
    exact k _ [] (rep_bl F H)
  | .isN, _, rfl => v_w2 op_isN rfl fun x y w e F H v u fv fu Q s r1 r2 k => by
    obtain ⟨b, e4⟩ := guardO_inv e
    cases e4
    have hy : u = .non := of_decide_eq_true ((non_of r2).trans b)
    exact ⟨hy, k _ [] (by rw [non_of r1]; exact rep_bl F H)⟩
  | .notN, _, rfl => v_w2 op_notN rfl fun x y w e F H v u fv fu Q s r1 r2 k => by
    obtain ⟨b, e4⟩ := guardO_inv e
    cases e4
    have hy : u = .non := of_decide_eq_true ((non_of r2).trans b)
    exact ⟨hy, k _ [] (by rw [non_of r1]; exact rep_bl F H)⟩
  | .isB, _, rfl => v_w2 op_isBl rfl fun x y w e F H v u fv fu Q s r1 r2 k => by
    split at e
    · rename_i a b
      cases e
      obtain ⟨rfl, _⟩ := r1
      obtain ⟨rfl, _⟩ := r2
      exact ⟨a, b, rfl, rfl, k _ [] (rep_bl F H)⟩
    · cases e
  | .notB, _, rfl => v_w2 op_notBl rfl fun x y w e F H v u fv fu Q s r1 r2 k => by
    split at e
    · rename_i a b
      cases e
      obtain ⟨rfl, _⟩ := r1
      obtain ⟨rfl, _⟩ := r2
      exact ⟨a, b, rfl, rfl, k _ [] (rep_bl F H)⟩
    · cases e
  | .inn, _, rfl => v_w2 ((op_inD (by omega)).or op_in_seq) rfl fun x y w e F H v u fv fu Q s r1 r2 k => by
    rw [hK]
    split at e
    · rename_i o ys
      obtain ⟨b, e4⟩ := guardO_inv e
      cases e4
      obtain ⟨b1, b2⟩ := and2 b
      refine .inl ⟨x.py, pys ys, rep_dp s r1 b1, rep_dp (n := 61) s r2 b2, py_shaped b1 (by decide), py_shaped (n := 61) (x := .lst o ys) b2 (by decide), ?_⟩
      rw [mem_pys b1 b2]
      exact k _ [] (rep_bl F H)
    · rename_i ys
      obtain ⟨b, e4⟩ := guardO_inv e
      cases e4
      obtain ⟨b1, b2⟩ := and2 b
      obtain ⟨_, a, vs, rfl, ea, rs⟩ := r2
      refine .inr ⟨a, vs, rfl, .inr (SqT.of (s _ _ ea)), ok0_flat r1 b1, oks0_flat rs b2, ?_⟩
      show Q (.bl (inV v vs)) H
      rw [oks0_mem r1 b1 rs b2]
      exact k _ [] (rep_bl F H)
    · cases e
  | .ninn, _, rfl => v_w2 ((op_notInD (by omega)).or op_notIn_seq) rfl fun x y w e F H v u fv fu Q s r1 r2 k => by
    rw [hK]
    split at e
    · rename_i o ys
      obtain ⟨b, e4⟩ := guardO_inv e
      cases e4
      obtain ⟨b1, b2⟩ := and2 b
      refine .inl ⟨x.py, pys ys, rep_dp s r1 b1, rep_dp (n := 61) s r2 b2, py_shaped b1 (by decide), py_shaped (n := 61) (x := .lst o ys) b2 (by decide), ?_⟩
      rw [mem_pys b1 b2]
      exact k _ [] (rep_bl F H)
    · rename_i ys
      obtain ⟨b, e4⟩ := guardO_inv e
      cases e4
      obtain ⟨b1, b2⟩ := and2 b
      obtain ⟨_, a, vs, rfl, ea, rs⟩ := r2
      refine .inr ⟨a, vs, rfl, .inr (SqT.of (s _ _ ea)), ok0_flat r1 b1, oks0_flat rs b2, ?_⟩
      show Q (.bl (!inV v vs)) H
      rw [oks0_mem r1 b1 rs b2]
      exact k _ [] (rep_bl F H)
    · cases e
end
end Nb
end
section
set_option maxRecDepth 100000
namespace Nb
open PySem PySem.Spec PyProof.Rows L2
section
variable {c : Cn} {F H : Hp}
theorem reps_get : ∀ {xs : List W} {vs : List V} {fp : List Addr} {i : Nat} {x : W}, Reps c F H xs vs fp → xs[i]? = some x → ∃ v f, vs[i]? = some v ∧ Rep c F H x v f ∧ ∀ a ∈ f, a ∈ fp
  | [], _, _, _, _, _, h => by simp at h
  | y :: xs, _, _, 0, x, r, h => by
    obtain ⟨v, t, f1, f2, rfl, rfl, r1, r2⟩ := r
    simp only [List.getElem?_cons_zero, Option.some.injEq] at h
    subst h
    exact ⟨v, f1, rfl, r1, fun a ha => List.mem_append_left _ ha⟩
  | y :: xs, _, _, i + 1, x, r, h => by
    obtain ⟨v, t, f1, f2, rfl, rfl, r1, r2⟩ := r
    simp only [List.getElem?_cons_succ] at h
    obtain ⟨u, g, h1, h2, h3⟩ := reps_get r2 h
    exact ⟨u, g, by simpa using h1, h2, fun a ha => List.mem_append_right _ (h3 a ha)⟩
theorem reps_ints : ∀ {xs : List W} {vs : List V} {fp : List Addr} {is : List Int}, Reps c F H xs vs fp → ints? xs = some is → vs = is.map V.int ∧ xs = is.map W.int
  | [], _, _, is, r, h => by
    obtain ⟨rfl, _⟩ := r
    cases h
    exact ⟨rfl, rfl⟩
  | x :: xs, _, _, is, r, h => by
    obtain ⟨v, t, f1, f2, rfl, rfl, r1, r2⟩ := r
    cases x <;> first | (cases h; done) | skip
    rename_i i
    cases e : ints? xs with
    | none =>
      simp [ints?, W.int?, e] at h
    | some js =>
      simp [ints?, W.int?, e] at h
      subst h
      obtain ⟨rfl, rfl⟩ := reps_ints r2 e
      obtain ⟨rfl, _⟩ := r1
      exact ⟨rfl, rfl⟩
theorem reps_bls : ∀ {xs : List W} {vs : List V} {fp : List Addr} {is : List Bool}, Reps c F H xs vs fp → bls? xs = some is → vs = is.map V.bl
  | [], _, _, is, r, h => by
    obtain ⟨rfl, _⟩ := r
    cases h
    rfl
  | x :: xs, _, _, is, r, h => by
    obtain ⟨v, t, f1, f2, rfl, rfl, r1, r2⟩ := r
    cases x <;> first | (cases h; done) | skip
    rename_i i
    cases e : bls? xs with
    | none =>
      simp [bls?, W.bl?, e] at h
    | some js =>
      simp [bls?, W.bl?, e] at h
      subst h
      obtain ⟨rfl⟩ := reps_bls r2 e
      obtain ⟨rfl, _⟩ := r1
      rfl
/-- a list of whole numbers, to be read -/
theorem intsW_ok {x : W} {v : V} {fp : List Addr} {is : List Int} (s : Same F H) (r : Rep c F H x v fp) (h : intsW x = some is) : ∃ a, v = .ref a ∧ SqL c.K H a (is.map V.int) := by
  cases x <;> first | (cases h; done) | skip
  · rename_i o ws
    cases o
    · obtain ⟨_, a, vs, rfl, e, rs⟩ := r
      obtain ⟨rfl, _⟩ := reps_ints rs h
      exact ⟨a, rfl, SqL.of (s _ _ e)⟩
    · obtain ⟨a, vs, f1, rfl, e, _, rs⟩ := r
      obtain ⟨rfl, _⟩ := reps_ints rs h
      exact ⟨a, rfl, SqL.of e⟩
  · cases h
    obtain ⟨_, a, rfl, e⟩ := r
    exact ⟨a, rfl, s.seq e⟩
theorem blsW_ok {x : W} {v : V} {fp : List Addr} {is : List Bool} (s : Same F H) (r : Rep c F H x v fp) (h : blsW x = some is) : ∃ a, v = .ref a ∧ SqL c.K H a (is.map V.bl) := by
  cases x <;> first | (cases h; done) | skip
  rename_i o ws
  cases o
  · obtain ⟨_, a, vs, rfl, e, rs⟩ := r
    obtain ⟨rfl⟩ := reps_bls rs h
    exact ⟨a, rfl, SqL.of (s _ _ e)⟩
  · obtain ⟨a, vs, f1, rfl, e, _, rs⟩ := r
    obtain ⟨rfl⟩ := reps_bls rs h
    exact ⟨a, rfl, SqL.of e⟩
theorem reps_intsV : ∀ (is : List Int), Reps c F H (is.map W.int) (is.map V.int) []
  | [] => ⟨rfl, rfl⟩
  | i :: is => ⟨.int i, is.map V.int, [], [], rfl, rfl, ⟨rfl, rfl⟩, reps_intsV is⟩
/-- the items of a list or tuple, to be read -/
theorem seq_ok {x : W} {v : V} {fp : List Addr} {ys : List W} (s : Same F H) (r : Rep c F H x v fp) (h : x.seq? = some ys) : ∃ a vs g, v = .ref a ∧ (SqL c.K H a vs ∨ SqT c.K H a vs) ∧ Reps c F H ys vs g ∧ ∀ b ∈ g, b ∈ fp := by
  cases x <;> first | (cases h; done) | skip
  · cases h
    obtain ⟨rfl, a, vs, rfl, e, rs⟩ := r
    exact ⟨a, vs, [], rfl, .inr (SqT.of (s _ _ e)), rs, fun _ z => nomatch z⟩
  · rename_i o ws
    cases h
    cases o
    · obtain ⟨rfl, a, vs, rfl, e, rs⟩ := r
      exact ⟨a, vs, [], rfl, .inl (SqL.of (s _ _ e)), rs, fun _ z => nomatch z⟩
    · obtain ⟨a, vs, f1, rfl, e, rfl, rs⟩ := r
      exact ⟨a, vs, f1, rfl, .inl (SqL.of e), rs, fun _ z => List.mem_cons_of_mem _ z⟩
  · cases h
    obtain ⟨rfl, a, rfl, e⟩ := r
    exact ⟨a, _, [], rfl, .inl (s.seq e), reps_intsV _, fun _ z => nomatch z⟩
theorem ixP_ixN {n : Nat} {i : Int} {k : Nat} (h : ixP n i = some k) : ixN n i = some k := by
  unfold ixP at h
  unfold ixN
  by_cases h0 : 0 ≤ i
  · rw [if_pos h0] at h ⊢
    exact h
  · rw [if_neg h0] at h ⊢
    by_cases h1 : 0 ≤ i + n
    · rw [if_pos h1] at h
      rw [if_pos (by omega)]
      exact h
    · rw [if_neg h1] at h
      cases h
theorem foldMin_spec : ∀ (m : Int) (xs : List Int), (foldMin m xs = m ∨ foldMin m xs ∈ xs) ∧ foldMin m xs ≤ m ∧ ∀ y ∈ xs, foldMin m xs ≤ y
  | m, [] => ⟨.inl rfl, Int.le_refl _, fun _ z => nomatch z⟩
  | m, x :: xs => by
    unfold foldMin
    by_cases q : x < m
    · rw [if_pos q]
      obtain ⟨h1, h2, h3⟩ := foldMin_spec x xs
      refine ⟨.inr ?_, by omega, fun y hy => ?_⟩
      · rcases h1 with h1 | h1
        · rw [h1]
          exact List.mem_cons_self
        · exact List.mem_cons_of_mem _ h1
      · rcases List.mem_cons.mp hy with rfl | hy
        · exact h2
        · exact h3 y hy
    · rw [if_neg q]
      obtain ⟨h1, h2, h3⟩ := foldMin_spec m xs
      refine ⟨?_, h2, fun y hy => ?_⟩
      · rcases h1 with h1 | h1
        · exact .inl h1
        · exact .inr (List.mem_cons_of_mem _ h1)
      · rcases List.mem_cons.mp hy with rfl | hy
        · omega
        · exact h3 y hy
theorem foldMax_spec : ∀ (m : Int) (xs : List Int), (foldMax m xs = m ∨ foldMax m xs ∈ xs) ∧ m ≤ foldMax m xs ∧ ∀ y ∈ xs, y ≤ foldMax m xs
  | m, [] => ⟨.inl rfl, Int.le_refl _, fun _ z => nomatch z⟩
  | m, x :: xs => by
    unfold foldMax
    by_cases q : m < x
    · rw [if_pos q]
      obtain ⟨h1, h2, h3⟩ := foldMax_spec x xs
      refine ⟨.inr ?_, by omega, fun y hy => ?_⟩
      · rcases h1 with h1 | h1
        · rw [h1]
          exact List.mem_cons_self
        · exact List.mem_cons_of_mem _ h1
      · rcases List.mem_cons.mp hy with rfl | hy
        · exact h2
        · exact h3 y hy
    · rw [if_neg q]
      obtain ⟨h1, h2, h3⟩ := foldMax_spec m xs
      refine ⟨?_, h2, fun y hy => ?_⟩
      · rcases h1 with h1 | h1
        · exact .inl h1
        · exact .inr (List.mem_cons_of_mem _ h1)
      · rcases List.mem_cons.mp hy with rfl | hy
        · omega
        · exact h3 y hy
end
section
variable {c : Cn} {X : Cx}
theorem v_idx (hK : X.K = c.K) : IxR X (fun x y H Q => rO c .idx [x, y] H Q) := by
  refine ixr_mono (ix_list.or ix_tup) fun x y H Q q => ?_
  obtain ⟨F, ws, fp, w, sm, rp, e, kk⟩ := q
  obtain ⟨a, b, rfl, e2⟩ := w2_inv e
  obtain ⟨v, u, f, g, e3, r1, r2⟩ := reps2 rp
  obtain ⟨rfl, rfl⟩ : x = v ∧ y = u := by simpa using e3
  cases b <;> first | (cases e2; done) | skip
  rename_i i
  obtain ⟨rfl, _⟩ := r2
  unfold idxW at e2
  cases es : a.seq? with
  | none =>
    rw [es] at e2
    cases e2
  | some ys =>
    rw [es] at e2
    simp only at e2
    cases ek : ixP ys.length i with
    | none =>
      rw [ek] at e2
      cases e2
    | some k =>
      rw [ek] at e2
      simp only at e2
      obtain ⟨p, vs, g, rfl, hs, rs, _⟩ := seq_ok sm r1 es
      obtain ⟨z, fz, hz, rz, _⟩ := reps_get rs e2
      have hat : atI vs i = some z := by
        unfold atI
        rw [rs.len, ixP_ixN ek]
        exact hz
      rw [hK]
      rcases hs with hs | hs
      · exact .inl ⟨p, vs, i, z, rfl, rfl, hs, hat, kk z fz rz⟩
      · exact .inr ⟨p, vs, i, z, rfl, rfl, hs, hat, kk z fz rz⟩
def callO : O → Option (Str × String × Nat)
  | .len => some ("len", "len", 1)
  | .min2 => some ("min", "min", 2)
  | .max2 => some ("max", "max", 2)
  | .minl => some ("min", "min", 1)
  | .maxl => some ("max", "max", 1)
  | .sum => some ("sum", "sum", 1)
  | .all => some ("all", "all", 1)
  | .any => some ("any", "any", 1)
  | .abs => some ("abs", "abs", 1)
  | _ => none
theorem v_w1c {f : Value} {o : O} {g : W → Option W} {r : List V → Hp → VK → Prop} (h : CallR X f r) (ho : opF o = w1 g)
    (k : ∀ x w, g x = some w → ∀ F H v fv Q, Same F H → Rep c F H x v fv → (∀ z fpw, Rep c F H w z fpw → Q z H) → r [v] H Q) : CallR X f (rO c o) := by
  refine callr_mono h fun xs H Q q => ?_
  obtain ⟨F, ws, fp, w, sm, rp, e, kk⟩ := q
  rw [ho] at e
  obtain ⟨x, rfl, e2⟩ := w1_inv e
  obtain ⟨v, f, rfl, r1⟩ := reps1 rp
  exact k x w e2 F H v f Q sm r1 kk
theorem v_iic {f : Value} {o : O} {g : Int → Int → Option W} {r : List V → Hp → VK → Prop} (h : CallR X f r) (ho : opF o = ii g)
    (k : ∀ i j w, g i j = some w → ∃ v, (∀ F H, Rep c F H w v []) ∧ ∀ H Q, Q v H → r [.int i, .int j] H Q) : CallR X f (rO c o) := by
  refine callr_mono h fun xs H Q q => ?_
  obtain ⟨F, ws, fp, w, sm, rp, e, kk⟩ := q
  rw [ho] at e
  obtain ⟨i, j, rfl, e2⟩ := ii_inv e
  obtain ⟨v, u, f, g, rfl, r1, r2⟩ := reps2 rp
  obtain ⟨rfl, _⟩ := r1
  obtain ⟨rfl, _⟩ := r2
  obtain ⟨v, hv, hq⟩ := k i j w e2
  exact hq H Q (kk v [] (hv F H))
theorem v_i1c {f : Value} {o : O} {g : Int → Option W} {r : List V → Hp → VK → Prop} (h : CallR X f r) (ho : opF o = i1 g)
    (k : ∀ i w, g i = some w → ∃ v, (∀ F H, Rep c F H w v []) ∧ ∀ H Q, Q v H → r [.int i] H Q) : CallR X f (rO c o) := by
  refine callr_mono h fun xs H Q q => ?_
  obtain ⟨F, ws, fp, w, sm, rp, e, kk⟩ := q
  rw [ho] at e
  obtain ⟨i, rfl, e2⟩ := i1_inv e
  obtain ⟨v, f, rfl, r1⟩ := reps1 rp
  obtain ⟨rfl, _⟩ := r1
  obtain ⟨v, hv, hq⟩ := k i w e2
  exact hq H Q (kk v [] (hv F H))
theorem v_call (hK : X.K = c.K) (hc : X.calm = true) : ∀ {o : O} {x : Str} {id : String} {n : Nat}, callO o = some (x, id, n) → CallR X (.builtin id) (rO c o)
  | .len, _, _, _, rfl => v_w1c call_len rfl fun x w e F H v fv Q s r1 k => by
    rw [hK]
    cases en : sizeW x with
    | none =>
      rw [en] at e
      cases e
    | some n =>
      rw [en] at e
      cases e
      refine ⟨v, n, rfl, ?_, k _ [] (rep_int F H)⟩
      cases x <;> first | (cases en; done) | skip
      · cases en
        obtain ⟨_, a, vs, rfl, ea, rs⟩ := r1
        exact .inr ⟨vs, SqT.of (s _ _ ea), rs.len.symm⟩
      · rename_i o ws
        cases en
        cases o
        · obtain ⟨_, a, vs, rfl, ea, rs⟩ := r1
          exact .inl ⟨vs, SqL.of (s _ _ ea), rs.len.symm⟩
        · obtain ⟨a, vs, f1, rfl, ea, _, rs⟩ := r1
          exact .inl ⟨vs, SqL.of ea, rs.len.symm⟩
      · cases en
        obtain ⟨_, a, rfl, ea⟩ := r1
        exact .inl ⟨_, s.seq ea, by simp⟩
  | .min2, _, _, _, rfl => v_iic (call_min2 hc) rfl fun i j w e => by cases e; exact ⟨_, rep_int, fun H Q q => ⟨i, j, rfl, q⟩⟩
  | .max2, _, _, _, rfl => v_iic (call_max2 hc) rfl fun i j w e => by cases e; exact ⟨_, rep_int, fun H Q q => ⟨i, j, rfl, q⟩⟩
  | .abs, _, _, _, rfl => v_i1c call_abs rfl fun i w e => by cases e; exact ⟨_, rep_int, fun H Q q => ⟨i, rfl, q⟩⟩
  | .sum, _, _, _, rfl => v_w1c (cr_sum hc) rfl fun x w e F H v fv Q s r1 k => by
    rw [hK]
    cases ei : intsW x with
    | none =>
      rw [ei] at e
      cases e
    | some is =>
      rw [ei] at e
      cases e
      obtain ⟨a, rfl, hs⟩ := intsW_ok s r1 ei
      exact ⟨a, is, rfl, hs, k _ [] (rep_int F H)⟩
  | .minl, _, _, _, rfl => v_w1c (cr_min hc) rfl fun x w e F H v fv Q s r1 k => by
    rw [hK]
    cases ei : intsW x with
    | none =>
      rw [ei] at e
      cases e
    | some is =>
      rw [ei] at e
      cases is with
      | nil => cases e
      | cons i r =>
        cases e
        obtain ⟨a, rfl, hs⟩ := intsW_ok s r1 ei
        refine ⟨a, i :: r, rfl, hs, Nat.succ_pos _, fun m h1 h2 => ?_⟩
        obtain ⟨p1, p2, p3⟩ := foldMin_spec i r
        have hm : m = foldMin i r := by
          have q1 : m ≤ foldMin i r := by
            rcases p1 with p1 | p1
            · rw [p1]
              exact h2 i List.mem_cons_self
            · exact h2 _ (List.mem_cons_of_mem _ p1)
          have q2 : foldMin i r ≤ m := by
            rcases List.mem_cons.mp h1 with rfl | h1
            · exact p2
            · exact p3 m h1
          omega
        rw [hm]
        exact k _ [] (rep_int F H)
  | .maxl, _, _, _, rfl => v_w1c (cr_max hc) rfl fun x w e F H v fv Q s r1 k => by
    rw [hK]
    cases ei : intsW x with
    | none =>
      rw [ei] at e
      cases e
    | some is =>
      rw [ei] at e
      cases is with
      | nil => cases e
      | cons i r =>
        cases e
        obtain ⟨a, rfl, hs⟩ := intsW_ok s r1 ei
        refine ⟨a, i :: r, rfl, hs, Nat.succ_pos _, fun m h1 h2 => ?_⟩
        obtain ⟨p1, p2, p3⟩ := foldMax_spec i r
        have hm : m = foldMax i r := by
          have q1 : foldMax i r ≤ m := by
            rcases p1 with p1 | p1
            · rw [p1]
              exact h2 i List.mem_cons_self
            · exact h2 _ (List.mem_cons_of_mem _ p1)
          have q2 : m ≤ foldMax i r := by
            rcases List.mem_cons.mp h1 with rfl | h1
            · exact p2
            · exact p3 m h1
          omega
        rw [hm]
        exact k _ [] (rep_int F H)
  | .all, _, _, _, rfl => v_w1c (cr_all hc) rfl fun x w e F H v fv Q s r1 k => by
    rw [hK]
    cases ei : blsW x with
    | none =>
      rw [ei] at e
      cases e
    | some is =>
      rw [ei] at e
      cases e
      obtain ⟨a, rfl, hs⟩ := blsW_ok s r1 ei
      exact ⟨a, is, rfl, hs, k _ [] (rep_bl F H)⟩
  | .any, _, _, _, rfl => v_w1c (cr_any hc) rfl fun x w e F H v fv Q s r1 k => by
    rw [hK]
    cases ei : blsW x with
    | none =>
      rw [ei] at e
      cases e
    | some is =>
      rw [ei] at e
      cases e
      obtain ⟨a, rfl, hs⟩ := blsW_ok s r1 ei
      exact ⟨a, is, rfl, hs, k _ [] (rep_bl F H)⟩
theorem v_int : CallR X (.type "int") (rO c .int) := v_w1c call_int1 rfl fun x w e F H v fv Q s r1 k => by
  cases x <;> first | (cases e; done) | skip
  · cases e
    obtain ⟨rfl, _⟩ := r1
    exact .inr ⟨_, rfl, k _ [] (rep_int F H)⟩
  · cases e
    obtain ⟨rfl, _⟩ := r1
    exact .inl ⟨_, rfl, k _ [] (rep_int F H)⟩
end
end Nb
end
section
set_option maxRecDepth 100000
namespace Nb
open PySem PySem.Spec PyProof.Rows L2
/-! ### operations that make an object -/
structure Grow (F H F' H' : Hp) (fpw : List Addr) : Prop where
  ext : Same F F'
  sub : Same F' H'
  keep : Same H H'
  new : ∀ a o, F' a = some o → F a = some o ∨ H a = none
  nd : fpw.Nodup
  fresh : ∀ a ∈ fpw, H a = none ∧ F' a = none ∧ ∃ o, H' a = some o
def rM (c : Cn) (o : O) (vs : List V) (H : Hp) (Q : VK) : Prop := ∃ F ws w, Same F H ∧ Reps c F H ws vs [] ∧ opM o ws = some w ∧
  ∀ v H' F' fpw, Grow F H F' H' fpw → Rep c F' H' w v fpw → Q v H'
def rX (c : Cn) (o : O) (vs : List V) (H : Hp) (Q : VK) : Prop := rO c o vs H Q ∨ rM c o vs H Q
section
variable {c : Cn} {F H : Hp}
theorem same_new {p : Addr} {o : HO} (h : H p = none) : Same H (upd H p o) := fun a u e => by
  rw [upd_ne (ne_of_none e h)]
  exact e
theorem same_newF {p : Addr} {o : HO} (s : Same F H) (h : H p = none) : Same F (upd H p o) := s.trans (same_new h)
/-- a new list of given-away items is one's own -/
theorem new_lst {Q : VK} {ws : List W} {vs : List V} {g : List Addr} (s : Same F H) (r : Reps c F H ws vs g) (hg : g = []) (k : ∀ v H' F' fpw, Grow F H F' H' fpw → Rep c F' H' (.lst true ws) v fpw → Q v H')
    (p : Addr) (hp : H p = none) : Q (.ref p) (upd H p (.lst vs)) := by
  subst hg
  refine k (.ref p) _ F [p] ⟨Same.refl F, same_newF s hp, same_new hp, fun _ _ h => .inl h, by simp, fun a ha => ?_⟩ ⟨p, vs, [], rfl, upd_same, rfl, r.fr (Same.refl F) (fun _ z => nomatch z)⟩
  obtain rfl : a = p := by simpa using ha
  exact ⟨hp, s.free hp, _, upd_same⟩
/-- a new tuple -/
theorem new_tup {Q : VK} {ws : List W} {vs : List V} {g : List Addr} (s : Same F H) (r : Reps c F H ws vs g) (hg : g = []) (k : ∀ v H' F' fpw, Grow F H F' H' fpw → Rep c F' H' (.tup ws) v fpw → Q v H')
    (p : Addr) (hp : H p = none) : Q (.ref p) (upd H p (.tup vs)) := by
  subst hg
  have hF := s.free hp
  have e1 : Same F (upd F p (.tup vs)) := same_new hF
  refine k (.ref p) _ (upd F p (.tup vs)) [] ⟨e1, fun a o e => ?_, same_new hp, fun a o e => ?_, .nil, fun _ z => nomatch z⟩ ⟨rfl, p, vs, rfl, upd_same, r.fr e1 (fun _ z => nomatch z)⟩
  rotate_left
  · by_cases q : a = p
    · exact .inr (by rw [q]; exact hp)
    · rw [upd_ne q] at e
      exact .inl e
  by_cases q : a = p
  · subst q
    rw [upd_same] at e
    rw [upd_same]
    exact e
  · rw [upd_ne q] at e
    rw [upd_ne q]
    exact s a o e
theorem reps_app : ∀ {xs ys : List W} {vs us : List V} {f g : List Addr}, Reps c F H xs vs f → Reps c F H ys us g → Reps c F H (xs ++ ys) (vs ++ us) (f ++ g)
  | [], _, _, _, _, _, r, q => by
    obtain ⟨rfl, rfl⟩ := r
    exact q
  | x :: xs, _, _, _, _, _, r, q => by
    obtain ⟨v, t, f1, f2, rfl, rfl, r1, r2⟩ := r
    exact ⟨v, _, f1, _, rfl, by rw [List.append_assoc], r1, reps_app r2 q⟩
theorem reps_take : ∀ {xs : List W} {vs : List V} (n : Nat), Reps c F H xs vs [] → Reps c F H (xs.take n) (vs.take n) []
  | [], _, n, r => by
    obtain ⟨rfl, _⟩ := r
    rw [List.take_nil, List.take_nil]
    exact ⟨rfl, rfl⟩
  | x :: xs, _, 0, r => ⟨rfl, rfl⟩
  | x :: xs, _, n + 1, r => by
    obtain ⟨v, t, f1, f2, rfl, e, r1, r2⟩ := r
    obtain ⟨rfl, rfl⟩ := List.append_eq_nil_iff.mp e.symm
    exact ⟨v, t.take n, [], [], rfl, rfl, r1, reps_take n r2⟩
theorem reps_drop : ∀ {xs : List W} {vs : List V} (n : Nat), Reps c F H xs vs [] → Reps c F H (xs.drop n) (vs.drop n) []
  | [], _, n, r => by
    obtain ⟨rfl, _⟩ := r
    rw [List.drop_nil, List.drop_nil]
    exact ⟨rfl, rfl⟩
  | x :: xs, _, 0, r => r
  | x :: xs, _, n + 1, r => by
    obtain ⟨v, t, f1, f2, rfl, e, r1, r2⟩ := r
    obtain ⟨rfl, rfl⟩ := List.append_eq_nil_iff.mp e.symm
    exact reps_drop n r2
theorem reps_rep {xs : List W} {vs : List V} (r : Reps c F H xs vs []) : ∀ n : Nat, Reps c F H (List.replicate n xs).flatten (List.replicate n vs).flatten []
  | 0 => ⟨rfl, rfl⟩
  | n + 1 => by
    rw [List.replicate_succ, List.replicate_succ, List.flatten_cons, List.flatten_cons]
    exact reps_app (f := []) (g := []) r (reps_rep r n)
/-- a list without flags, with its items -/
theorem lst_nil {o : Bool} {ws : List W} {v : V} (r : Rep c F H (.lst o ws) v []) : ∃ a vs, v = .ref a ∧ F a = some (.lst vs) ∧ Reps c F H ws vs [] := by
  cases o
  · obtain ⟨_, a, vs, e, h, rs⟩ := r
    exact ⟨a, vs, e, h, rs⟩
  · obtain ⟨a, vs, f1, e, h, z, rs⟩ := r
    cases z
theorem reps1n {w : W} {vs : List V} (h : Reps c F H [w] vs []) : ∃ v, vs = [v] ∧ Rep c F H w v [] := by
  obtain ⟨v, r, f1, f2, e1, e2, h1, h2⟩ := h
  obtain ⟨rfl, rfl⟩ := List.append_eq_nil_iff.mp e2.symm
  obtain ⟨e3, _⟩ := h2
  exact ⟨v, by rw [e1, e3], h1⟩
theorem reps2n {w u : W} {vs : List V} (h : Reps c F H [w, u] vs []) : ∃ v x, vs = [v, x] ∧ Rep c F H w v [] ∧ Rep c F H u x [] := by
  obtain ⟨v, r, f1, f2, e1, e2, h1, h2⟩ := h
  obtain ⟨rfl, rfl⟩ := List.append_eq_nil_iff.mp e2.symm
  obtain ⟨x, e3, h3⟩ := reps1n h2
  exact ⟨v, x, by rw [e1, e3], h1, h3⟩
theorem insI_perm (x : Int) : ∀ xs : List Int, (insI x xs).Perm (x :: xs)
  | [] => .refl _
  | y :: ys => by
    unfold insI
    by_cases h : x ≤ y
    · rw [if_pos h]
    · rw [if_neg h]
      exact ((insI_perm x ys).cons y).trans (.swap x y ys)
theorem sortI_perm : ∀ xs : List Int, (sortI xs).Perm xs
  | [] => .refl _
  | x :: xs => (insI_perm x _).trans ((sortI_perm xs).cons x)
theorem insI_sorted (x : Int) : ∀ {xs : List Int}, xs.Pairwise (· ≤ ·) → (insI x xs).Pairwise (· ≤ ·)
  | [], _ => by simp [insI]
  | y :: ys, h => by
    unfold insI
    obtain ⟨h1, h2⟩ := List.pairwise_cons.mp h
    by_cases q : x ≤ y
    · rw [if_pos q]
      refine List.pairwise_cons.mpr ⟨fun z hz => ?_, h⟩
      rcases List.mem_cons.mp hz with rfl | hz
      · exact q
      · exact Int.le_trans q (h1 z hz)
    · rw [if_neg q]
      refine List.pairwise_cons.mpr ⟨fun z hz => ?_, insI_sorted x h2⟩
      rcases List.mem_cons.mp ((insI_perm x ys).subset hz) with rfl | hz
      · omega
      · exact h1 z hz
theorem sortI_sorted : ∀ xs : List Int, (sortI xs).Pairwise (· ≤ ·)
  | [] => .nil
  | x :: xs => insI_sorted x (sortI_sorted xs)
theorem sorted_eq {xs ys : List Int} (p : xs.Perm ys) (hx : xs.Pairwise (· ≤ ·)) (hy : ys.Pairwise (· ≤ ·)) : xs = ys :=
  p.eq_of_pairwise (fun a b _ _ h1 h2 => Int.le_antisymm h1 h2) hx hy
end
section
variable {c : Cn} {X : Cx}
theorem v_w2m {f : Value → Value → Sem Value} {o : O} {g : W → W → Option W} {r : R2} (h : OpR X f r) (ho : opM o = w2 g)
    (k : ∀ x y w, g x y = some w → ∀ F H v u Q, Same F H → Rep c F H x v [] → Rep c F H y u [] →
      (∀ v H' F' fpw, Grow F H F' H' fpw → Rep c F' H' w v fpw → Q v H') → r v u H Q) : OpR X f (fun x y H Q => rM c o [x, y] H Q) := by
  refine opr_mono h fun x y H Q q => ?_
  obtain ⟨F, ws, w, sm, rp, e, kk⟩ := q
  rw [ho] at e
  obtain ⟨i, j, rfl, e2⟩ := w2_inv e
  obtain ⟨v, u, e3, r1, r2⟩ := reps2n rp
  obtain ⟨rfl, rfl⟩ : x = v ∧ y = u := by simpa using e3
  exact k i j w e2 F H x y Q sm r1 r2 kk
theorem v_w1m {f : Value} {o : O} {g : W → Option W} {r : List V → Hp → VK → Prop} (h : CallR X f r) (ho : opM o = w1 g)
    (k : ∀ x w, g x = some w → ∀ F H v Q, Same F H → Rep c F H x v [] →
      (∀ v H' F' fpw, Grow F H F' H' fpw → Rep c F' H' w v fpw → Q v H') → r [v] H Q) : CallR X f (rM c o) := by
  refine callr_mono h fun xs H Q q => ?_
  obtain ⟨F, ws, w, sm, rp, e, kk⟩ := q
  rw [ho] at e
  obtain ⟨x, rfl, e2⟩ := w1_inv e
  obtain ⟨v, rfl, r1⟩ := reps1n rp
  exact k x w e2 F H v Q sm r1 kk
theorem line6 {n : Nat} (h : n ≤ 1000002) : n ≤ sizeLine := by rw [sizeLine_eq]; omega
theorem m_add (hK : X.K = c.K) : OpR X (binaryOp .Add) (fun x y H Q => rM c .add [x, y] H Q) := v_w2m (op_cat.or op_catT) rfl fun x y w e F H v u Q s r1 r2 k => by
  unfold catW at e
  split at e
  · rename_i o xs p ys
    obtain ⟨b, e4⟩ := guardO_inv e
    cases e4
    obtain ⟨a1, vs, rfl, h1, q1⟩ := lst_nil r1
    obtain ⟨a2, us, rfl, h2, q2⟩ := lst_nil r2
    refine .inl ⟨a1, a2, vs, us, rfl, rfl, s _ _ h1, s _ _ h2, ?_, fun p hp => ?_⟩
    · rw [q1.len, q2.len]
      exact line6 (by have := of_decide_eq_true b; omega)
    · exact new_lst s (reps_app q1 q2) rfl k p hp
  · rename_i x xs y ys
    obtain ⟨b, e4⟩ := guardO_inv e
    cases e4
    obtain ⟨_, a1, vs, rfl, h1, q1⟩ := r1
    obtain ⟨_, a2, us, rfl, h2, q2⟩ := r2
    have l1 := q1.len
    have l2 := q2.len
    simp only [List.length_cons] at l1 l2
    refine .inr ⟨a1, a2, vs, us, rfl, rfl, by rw [hK]; exact SqT.of (s _ _ h1), by rw [hK]; exact SqT.of (s _ _ h2), ?_, ?_, ?_, fun _ p hp => ?_⟩
    · intro z
      rw [z] at l1
      cases l1
    · rw [l1, l2]
      exact line6 (by have := of_decide_eq_true b; omega)
    · intro z
      rw [z] at l2
      cases l2
    · exact new_tup s (reps_app q1 q2) rfl k p hp
  · cases e
theorem m_mul : OpR X (binaryOp .Mult) (fun x y H Q => rM c .mul [x, y] H Q) := v_w2m op_rep rfl fun x y w e F H v u Q s r1 r2 k => by
  unfold repW at e
  split at e
  · rename_i o xs i
    obtain ⟨b, e4⟩ := guardO_inv e
    cases e4
    obtain ⟨b1, b2⟩ := and2 b
    obtain ⟨b2, b3⟩ := and2 b2
    have b1 := of_decide_eq_true b1
    have b2 := of_decide_eq_true b2
    have b3 := of_decide_eq_true b3
    obtain ⟨a1, vs, rfl, h1, q1⟩ := lst_nil r1
    obtain ⟨rfl, _⟩ := r2
    refine ⟨a1, i, vs, rfl, rfl, s _ _ h1, by omega, by omega, ?_, fun p hp => ?_⟩
    · rw [q1.len]
      exact line6 (by omega)
    · exact new_lst s (reps_rep q1 _) rfl k p hp
  · cases e
theorem m_list (hK : X.K = c.K) : CallR X (.type "list") (rM c .list) := v_w1m call_list_of rfl fun x w e F H v Q s r1 k => by
  rw [hK]
  cases x <;> first | (cases e; done) | skip
  · cases e
    obtain ⟨_, a, vs, rfl, h, q⟩ := r1
    exact ⟨a, vs, rfl, .inr (SqT.of (s _ _ h)), fun p hp => new_lst s q rfl k p hp⟩
  · cases e
    obtain ⟨a, vs, rfl, h, q⟩ := lst_nil r1
    exact ⟨a, vs, rfl, .inl (SqL.of (s _ _ h)), fun p hp => new_lst s q rfl k p hp⟩
theorem m_tuple (hK : X.K = c.K) : CallR X (.type "tuple") (rM c .tuple) := v_w1m call_tuple_of rfl fun x w e F H v Q s r1 k => by
  rw [hK]
  cases x <;> first | (cases e; done) | skip
  · cases e
    have r0 := r1
    obtain ⟨_, a, vs, rfl, h, q⟩ := r1
    exact ⟨a, vs, rfl, .inr ⟨SqT.of (s _ _ h), k _ H F [] ⟨Same.refl F, s, Same.refl H, fun _ _ h => .inl h, .nil, fun _ z => nomatch z⟩ r0⟩⟩
  · cases e
    obtain ⟨a, vs, rfl, h, q⟩ := lst_nil r1
    exact ⟨a, vs, rfl, .inl ⟨SqL.of (s _ _ h), fun p hp => new_tup s q rfl k p hp⟩⟩
theorem m_sorted (hK : X.K = c.K) : CallR X (.builtin "sorted") (rM c .sorted) := v_w1m cr_sortedI rfl fun x w e F H v Q s r1 k => by
  rw [hK]
  cases ei : intsW x with
  | none =>
    rw [ei] at e
    cases e
  | some is =>
    rw [ei] at e
    cases e
    obtain ⟨a, rfl, hs⟩ := intsW_ok s r1 ei
    refine ⟨a, is, rfl, hs, fun ns' p h1 h2 hp => ?_⟩
    have e : ns' = sortI is := sorted_eq (h1.trans (sortI_perm is).symm) h2 (sortI_sorted is)
    subst e
    exact new_lst s (reps_intsV _) rfl k p hp
end
end Nb
end
section
set_option maxRecDepth 100000
namespace Nb
open PySem PySem.Spec PyProof.Rows L2
/-! ### the words of operations -/
def guardP {α : Type} (b : Bool) (x : α) : Option α := match b with
  | true => some x
  | false => none
theorem guardP_inv {α : Type} {b : Bool} {x y : α} (h : guardP b x = some y) : b = true ∧ x = y := by
  cases b with
  | true => exact ⟨rfl, Option.some.inj h⟩
  | false => cases h
def tyN : Nat → Option (Str × String)
  | 0 => some ("bool", "bool")
  | 1 => some ("int", "int")
  | 2 => some ("str", "str")
  | 3 => some ("tuple", "tuple")
  | 4 => some ("list", "list")
  | 5 => some ("dict", "dict")
  | _ => none
/-- a builtin's name, free here -/
def bltB (p : Pl) (x y : Str) : Bool := decide (x = y) && (gloB p x && p.free.contains x)
/-- operations of one part: the part -/
def mUn (p : Pl) (o : O) : Expr → Option Expr
  | .UnaryOp .USub a _ => match o with
    | .neg => some a
    | _ => none
  | .Attribute a f _ => match o with
    | .fld n => guardP (decide (p.nm n = f) && goodH a) a
    | _ => none
  | .Call (.Name x _) [a] [] _ => match o with
    | .lens => match a with
      | .Call (.Name y _) [b] [] _ => guardP (bltB p x "len" && (bltB p y "set" && goodH b)) b
      | _ => none
    | .int => guardP (bltB p x "int" && goodH a) a
    | .list => guardP (bltB p x "list" && goodH a) a
    | .tuple => guardP (bltB p x "tuple" && goodH a) a
    | .sorted => guardP (bltB p x "sorted" && goodH a) a
    | o => match callO o with
      | some (y, _, 1) => guardP (bltB p x y && goodH a) a
      | _ => none
  | .Call (.Name x _) [a, .Name y _] [] _ => match o with
    | .isi t => match tyN t with
      | some (z, _) => guardP (bltB p x "isinstance" && (bltB p y z && goodH a)) a
      | none => none
    | _ => none
  | .Call (.Attribute a m apos) [] [] pos => match o with
    | .bitl => guardP (decide (m = "bit_length") && (goodH a && (apos.endLine == pos.line))) a
    | _ => none
  | _ => none
/-- operations of two parts -/
def mBi (p : Pl) (o : O) : Expr → Option (Expr × Expr)
  | .BinOp a op b _ => guardP (decide (binO o = some op)) (a, b)
  | .Compare a [op] [b] _ => guardP (decide (cmpO o = some op) && !behindInMarks op b) (a, b)
  | .Subscript a b _ => match o with
    | .idx => guardP (goodH b) (a, b)
    | .slu => match b with
      | .Slice none (some k) none _ => some (a, k)
      | _ => none
    | .sll => match b with
      | .Slice (some k) none none _ => some (a, k)
      | _ => none
    | _ => none
  | .Call (.Name x _) [a, b] [] _ => match callO o with
    | some (y, _, 2) => guardP (bltB p x y && (goodH a && goodH b)) (a, b)
    | _ => none
  | _ => none
section
variable {p : Pl} {c : Cn} {X : Cx}
theorem XOk.glo (x : XOk p c X) {y : Str} (h : gloB p y = true) : Gl X y := by
  unfold gloB at h
  unfold Gl PySem.Env.kindOf
  rw [x.sc]
  split at h
  · assumption
  · cases h
structure Blt (X : Cx) (x y : Str) : Prop where
  eq : x = y
  gl : Gl X y
  no : X.mg y = none
theorem XOk.blt (x : XOk p c X) {y z : Str} (h : bltB p y z = true) : Blt X y z := by
  obtain ⟨h1, h2⟩ := and2 h
  obtain ⟨h2, h3⟩ := and2 h2
  have e := of_decide_eq_true h1
  subst e
  exact ⟨rfl, x.glo h2, x.free _ h3⟩
/-- the reading of an operation of one part, of two parts -/
def tU (c : Cn) (o : O) (ta : TE) : TE := fun σ H Q => ta σ H fun x H1 => rX c o [x] H1 Q
def tB2 (c : Cn) (o : O) (ta tb : TE) : TE := fun σ H Q => ta σ H fun x H1 => tb σ H1 fun y H2 => rX c o [x, y] H2 Q
theorem pa_one {e : Expr} {t : TE} (h : PE X e t) (g : goodH e = true) : PA X [e] (tCons t tNil) := pa_cons h pa_nil (goodH_star g)
theorem pa_two {e f : Expr} {t u : TE} (h : PE X e t) (g : goodH e = true) (h2 : PE X f u) (g2 : goodH f = true) : PA X [e, f] (tCons t (tCons u tNil)) := pa_cons h (pa_cons h2 pa_nil (goodH_star g2)) (goodH_star g)
theorem back_one {e : Expr} {env : PySem.Env} {pos : Pos} (g : goodH e = true) : (backTo pos (starEach [e] env)).any (·.1) = false := by
  rw [goodH_star g]
  rfl
theorem callB1 {id : String} {x : Str} {o : O} {a : Expr} {ta : TE} {q pos : Pos} (hc : CallR X (.builtin id) (rX c o)) (hb : Blt X x x) (hv : bootBuiltins x = some (.builtin id)) (ha : PE X a ta) (g : goodH a = true)
    (hn : x ≠ "__name__" := by decide) (hdb : (x == ("__debug__" : Str)) = false := by decide) : PE X (.Call (.Name x q) [a] [] pos) (tU c o ta) :=
  pe_mono (pe_callB hc hb.gl hb.no hv (pa_one ha g) hn hdb (goodH_star g) rfl) fun σ H Q h => h
theorem callT1 {id : String} {x : Str} {o : O} {a : Expr} {ta : TE} {q pos : Pos} (hc : CallR X (.type id) (rX c o)) (hb : Blt X x x) (hv : bootBuiltins x = some (.type id)) (ha : PE X a ta) (g : goodH a = true)
    (hn : x ≠ "__name__" := by decide) (hdb : (x == ("__debug__" : Str)) = false := by decide) : PE X (.Call (.Name x q) [a] [] pos) (tU c o ta) :=
  pe_mono (pe_callTy hc hb.gl hb.no hv (pa_one ha g) hn hdb (goodH_star g) rfl) fun σ H Q h => h
theorem CallR.or' {f : Value} {r r' : List V → Hp → VK → Prop} (h : CallR X f r) (h' : CallR X f r') : CallR X f (fun xs H Q => r xs H Q ∨ r' xs H Q) := fun pins s σ H xs us Q I rv q =>
  q.elim (h pins s σ H xs us Q I rv) (h' pins s σ H xs us Q I rv)
/-- an operation without a making form -/
theorem no_m {o : O} (h : opM o = fun _ => none) {vs : List V} {H : Hp} {Q : VK} : ¬ rM c o vs H Q := by
  rintro ⟨F, ws, w, _, _, e, _⟩
  rw [h] at e
  cases e
theorem no_f {o : O} (h : opF o = fun _ => none) {vs : List V} {H : Hp} {Q : VK} : ¬ rO c o vs H Q := by
  rintro ⟨F, ws, fp, w, _, _, e, _⟩
  rw [h] at e
  cases e
theorem rX_O {o : O} (h : opM o = fun _ => none) {vs : List V} {H : Hp} {Q : VK} (q : rX c o vs H Q) : rO c o vs H Q := q.elim id fun z => (no_m h z).elim
theorem rX_M {o : O} (h : opF o = fun _ => none) {vs : List V} {H : Hp} {Q : VK} (q : rX c o vs H Q) : rM c o vs H Q := q.elim (fun z => (no_f h z).elim) id
theorem fld_look {nm : Nat → Str} (inj : ∀ i j, nm i = nm j → i = j) {f : Nat} : ∀ {fs : List Nat} {vs : List V} {k : Nat}, fs.idxOf? f = some k → vs.length = fs.length → ((fs.map nm).zip vs).lookup (nm f) = vs[k]?
  | [], _, _, h, _ => by cases h
  | g :: fs, [], _, _, l => by cases l
  | g :: fs, v :: vs, k, h, l => by
    rw [List.idxOf?_cons] at h
    show List.lookup (nm f) ((nm g, v) :: (fs.map nm).zip vs) = _
    rw [List.lookup_cons]
    by_cases e : g = f
    · subst e
      simp only [beq_self_eq_true, if_true, Option.some.injEq] at h
      subst h
      simp
    · have e1 : (g == f) = false := beq_eq_false_iff_ne.mpr e
      have e2 : (nm f == nm g) = false := beq_eq_false_iff_ne.mpr fun z => e (inj _ _ z).symm
      rw [e1] at h
      rw [e2]
      cases q : fs.idxOf? f with
      | none =>
        rw [q] at h
        simp at h
      | some j =>
        rw [q] at h
        simp at h
        subst h
        simpa using fld_look inj q (by simpa using l)
/-- an instance to be read -/
theorem ins_ok {F H : Hp} {o : Bool} {C : Nat} {fs : List Nat} {ws : List W} {v : V} {fp : List Addr} (s : Same F H) (r : Rep c F H (.ins o C fs ws) v fp) :
    ∃ a dx vs g, v = .ref a ∧ H a = some (.ins (c.ca C) dx ((fs.map c.nm).zip vs)) ∧ fs.length = ws.length ∧ InsOk c C fs ∧ Reps c F H ws vs g := by
  cases o
  · obtain ⟨_, a, dx, vs, e, h, l, n, rs⟩ := r
    exact ⟨a, dx, vs, [], e, s _ _ h, l, n, rs⟩
  · obtain ⟨a, dx, vs, f1, e, h, _, l, n, rs⟩ := r
    exact ⟨a, dx, vs, f1, e, h, l, n, rs⟩
theorem pe_field (x : XOk p c X) {a : Expr} {ta : TE} {f : Nat} {pos : Pos} (ha : PE X a ta) (g : goodH a = true) : PE X (.Attribute a (c.nm f) pos) (tU c (.fld f) ta) := by
  refine ⟨fun pins s σ H Q I h => ?_⟩
  refine attr_of (goodH_attr g) (thn (ha.run pins s σ H _ I h) fun u s1 ⟨x1, H1, I1, rx, q⟩ => ?_)
  obtain ⟨F, ws, fp, w, sm, rp, e, kk⟩ := rX_O rfl q
  obtain ⟨y, rfl, e2⟩ := w1_inv e
  obtain ⟨v, g, e3, r1⟩ := reps1 rp
  obtain ⟨rfl⟩ : x1 = v := by simpa using e3
  cases y <;> first | (cases e2; done) | skip
  rename_i o C fs us
  unfold fldW at e2
  simp only at e2
  cases ek : fs.idxOf? f with
  | none =>
    rw [ek] at e2
    cases e2
  | some k =>
    rw [ek] at e2
    simp only at e2
    obtain ⟨a, dx, vs, g2, rfl, h1, l, n, rs⟩ := ins_ok sm r1
    obtain ⟨z, fz, hz, rz, _⟩ := reps_get rs e2
    have hmem : f ∈ fs := List.isSome_idxOf?.mp (by rw [ek]; rfl)
    obtain rfl : u = Value.ref a := rx
    refine getattr_ok I1 h1 (by rw [x.K]; exact c.cls C n.cl) (by rw [x.K]; exact c.noat C f (n.ok f hmem)) (v := z) ?_ fun u' s2 I2 ru => ⟨z, H1, I2, ru, kk z fz rz⟩
    rw [fld_look c.inj ek (by rw [rs.len, l]), hz]
theorem pe_lens (x : XOk p c X) {a : Expr} {ta : TE} {q1 q2 q3 pos : Pos} (h1 : Blt X "len" "len") (h2 : Blt X "set" "set") (ha : PE X a ta) (g : goodH a = true) : PE X (.Call (.Name "len" q1) [.Call (.Name "set" q2) [a] [] q3] [] pos) (tU c .lens ta) := by
  have hw : PE X a (fun σ H Q => ta σ H Q) := ha
  have key : ∀ (x1 : V) (H1 : Hp) (Q : VK), rX c .lens [x1] H1 Q → ∃ (l : Addr) (ns : List Int), x1 = .ref l ∧ SqL X.K H1 l (ns.map V.int) ∧ ns.Nodup ∧ ns.length ≤ 4000 ∧ Q (.int (ns.length : Nat)) H1 := fun x1 H1 Q q => by
    obtain ⟨F, ws, fp, w, sm, rp, e, kk⟩ := rX_O rfl q
    obtain ⟨y, rfl, e2⟩ := w1_inv e
    obtain ⟨v, g, e3, r1⟩ := reps1 rp
    obtain ⟨rfl⟩ : x1 = v := by simpa using e3
    cases ei : intsW y with
    | none =>
      rw [ei] at e2
      cases e2
    | some is =>
      rw [ei] at e2
      obtain ⟨b, e4⟩ := guardO_inv e2
      cases e4
      obtain ⟨b1, b2⟩ := and2 b
      obtain ⟨l, rfl, hs⟩ := intsW_ok sm r1 ei
      exact ⟨l, is, rfl, by rw [x.K]; exact hs, of_decide_eq_true b1, of_decide_eq_true b2, kk _ [] (rep_int F H1)⟩
  have na : starEach [a] X.env = (false, eval a X.env) :: starEach [] X.env := goodH_star g
  refine ⟨fun pins s σ H Q I h => ?_⟩
  refine Call_ (ld_blt I h1.gl h1.no boot_len ?_)
  refine PyProof.Rows.callWith_builtin1 (PyProof.Rows.args_cons ?_ rfl) rfl rfl
  refine Call_ (ld_blt I h2.gl h2.no boot_set ?_)
  refine PyProof.Rows.callWith_type1 (PyProof.Rows.args_cons (thn (ha.run pins s σ H _ I h) fun v s1 ⟨x1, H1, I1, r1, q1⟩ => PyProof.Rows.args_nil ?_) na) na rfl
  obtain ⟨l, ns, rfl, hq, hnd, hl, q1⟩ := key x1 H1 Q q1
  cases r1
  obtain ⟨its, r, pl, hz⟩ := I1.list hq
  have hlen : its.toArray.size = ns.length := by rw [List.size_toArray, ← r.length, List.length_map]
  refine call_set_list (I1.ok.hd x.calm) pl.isList (by simpa using RZ.intsAre_vals r) (by rw [hlen]; unfold scanBound; omega) fun h' tk hS hk => ?_
  refine PyProof.Rows.args_nil ?_
  rw [hlen, RZ.firstMet_nodup hnd ns.length (Nat.le_refl _), List.take_length] at hS
  obtain ⟨o, es, ep, t, ho, hex, hd, _, _, _, hf, hn⟩ := hS
  have I2 : Inv X pins σ H1 { s1 with heap := h', toks := tk } := I1.kept fun b o e => hk b o (Heap.lt_size e) e
  exact call_len_set ho hex hd hf (by rw [hn] <;> omega) ⟨.int ns.length, H1, I2.tok _, ⟨_, by rw [hn]⟩, q1⟩
end
end Nb
end
section
set_option maxRecDepth 100000
namespace Nb
open PySem PySem.Spec PyProof.Rows L2
section
variable {p : Pl} {c : Cn} {X : Cx}
theorem boot_ok1 : ∀ {o : O} {y : Str} {id : String} {n : Nat}, callO o = some (y, id, n) → bootBuiltins y = some (.builtin id) ∧ y ≠ "__name__" ∧ (y == ("__debug__" : Str)) = false
  | .len, _, _, _, rfl => ⟨by decide +kernel, by decide +kernel, by decide +kernel⟩
  | .min2, _, _, _, rfl => ⟨by decide +kernel, by decide +kernel, by decide +kernel⟩
  | .max2, _, _, _, rfl => ⟨by decide +kernel, by decide +kernel, by decide +kernel⟩
  | .minl, _, _, _, rfl => ⟨by decide +kernel, by decide +kernel, by decide +kernel⟩
  | .maxl, _, _, _, rfl => ⟨by decide +kernel, by decide +kernel, by decide +kernel⟩
  | .sum, _, _, _, rfl => ⟨by decide +kernel, by decide +kernel, by decide +kernel⟩
  | .all, _, _, _, rfl => ⟨by decide +kernel, by decide +kernel, by decide +kernel⟩
  | .any, _, _, _, rfl => ⟨by decide +kernel, by decide +kernel, by decide +kernel⟩
  | .abs, _, _, _, rfl => ⟨by decide +kernel, by decide +kernel, by decide +kernel⟩
theorem callO_m : ∀ {o : O} {q : Str × String × Nat}, callO o = some q → opM o = fun _ => none
  | .len, _, rfl => rfl
  | .min2, _, rfl => rfl
  | .max2, _, rfl => rfl
  | .minl, _, rfl => rfl
  | .maxl, _, rfl => rfl
  | .sum, _, rfl => rfl
  | .all, _, rfl => rfl
  | .any, _, rfl => rfl
  | .abs, _, rfl => rfl
theorem ty_ok : ∀ {t : Nat} {z : Str} {id : String}, tyN t = some (z, id) → bootBuiltins z = some (.type id) ∧ z ≠ "__name__" ∧ (z == ("__debug__" : Str)) = false
  | 0, _, _, rfl => ⟨by decide +kernel, by decide +kernel, by decide +kernel⟩
  | 1, _, _, rfl => ⟨by decide +kernel, by decide +kernel, by decide +kernel⟩
  | 2, _, _, rfl => ⟨by decide +kernel, by decide +kernel, by decide +kernel⟩
  | 3, _, _, rfl => ⟨by decide +kernel, by decide +kernel, by decide +kernel⟩
  | 4, _, _, rfl => ⟨by decide +kernel, by decide +kernel, by decide +kernel⟩
  | 5, _, _, rfl => ⟨by decide +kernel, by decide +kernel, by decide +kernel⟩
theorem kit_all : ∀ {t : Nat} {z : Str} {id : String}, tyN t = some (z, id) → kitB "NoneType" id = some false ∧ kitB "bool" id = some (t == 0 || t == 1) ∧ kitB "int" id = some (t == 1) ∧ kitB "str" id = some (t == 2) ∧ kitB "tuple" id = some (t == 3) ∧ kitB "list" id = some (t == 4)
  | 0, _, _, rfl => by decide +kernel
  | 1, _, _, rfl => by decide +kernel
  | 2, _, _, rfl => by decide +kernel
  | 3, _, _, rfl => by decide +kernel
  | 4, _, _, rfl => by decide +kernel
  | 5, _, _, rfl => by decide +kernel
theorem pe_isi (x : XOk p c X) {a : Expr} {ta : TE} {t : Nat} {z : Str} {id : String} {q1 q2 pos : Pos} (hz : tyN t = some (z, id)) (h1 : Blt X "isinstance" "isinstance") (h2 : Blt X z z) (ha : PE X a ta) (g : goodH a = true) :
    PE X (.Call (.Name "isinstance" q1) [a, .Name z q2] [] pos) (tU c (.isi t) ta) := by
  obtain ⟨b1, b2, b3⟩ := ty_ok hz
  have hn : goodH (.Name z q2) = true := rfl
  have hz2 : PE X (.Name z q2) (tC (.ty id)) := pe_bltn h2.gl h2.no b1 rfl b2 b3
  refine ⟨fun pins s σ H Q I h => ?_⟩
  have key : ∀ (x1 : V) (H1 : Hp), rX c (.isi t) [x1] H1 Q → rIsi X.K [x1, .ty id] H1 Q := fun x1 H1 q => by
    obtain ⟨F, ws, fp, w, sm, rp, e, kk⟩ := rX_O rfl q
    obtain ⟨y, rfl, e2⟩ := w1_inv e
    obtain ⟨v, g, e3, r1⟩ := reps1 rp
    obtain ⟨rfl⟩ : x1 = v := by simpa using e3
    obtain ⟨k1, k2, k3, k4, k5, k6⟩ := kit_all hz
    have fin : ∀ {b : Bool} {T : String}, y.isT t = some b → TyOf X.K H1 x1 (.type T) → kitB T id = some b → rIsi X.K [x1, .ty id] H1 Q := fun {b T} e5 ty e6 => by
      rw [e5] at e2
      cases e2
      exact ⟨x1, .ty id, _, _, b, rfl, .ty id, .base ty, kit_ty e6, kk _ [] (rep_bl F H1)⟩
    cases y <;> first | (cases e2; done) | skip
    · obtain ⟨rfl, _⟩ := r1
      exact fin rfl .non k1
    · obtain ⟨rfl, _⟩ := r1
      exact fin rfl (.bl _) k2
    · obtain ⟨rfl, _⟩ := r1
      exact fin rfl (.int _) k3
    · obtain ⟨rfl, _⟩ := r1
      exact fin rfl (.str _) k4
    · obtain ⟨_, a, vs, rfl, ea, rs⟩ := r1
      exact fin rfl (.tup (sm _ _ ea)) k5
    · rename_i o ws
      cases o
      · obtain ⟨_, a, vs, rfl, ea, rs⟩ := r1
        exact fin rfl (.lst (sm _ _ ea)) k6
      · obtain ⟨a, vs, f1, rfl, ea, _, rs⟩ := r1
        exact fin rfl (.lst ea) k6
  have hi : bootBuiltins "isinstance" = some (.builtin "isinstance") := by decide +kernel
  refine wpAny_Call_Name_kw (ld_blt I h1.gl h1.no hi ?_ (by decide +kernel) (by decide +kernel))
  refine PyProof.Rows.callWith_builtin1 (Q := EP X pins σ Q) ?_ (goodH_star g) (by rw [goodH_star hn]; rfl)
  refine PyProof.Rows.args_cons ?_ (goodH_star g)
  refine thn (ha.run pins s σ H _ I h) fun u s1 ⟨x1, H1, I1, rx, q⟩ => ?_
  refine PyProof.Rows.args_cons ?_ (goodH_star hn)
  refine thn (hz2.run pins s1 σ H1 (fun y H2 => y = .ty id ∧ H2 = H1) I1 ⟨rfl, rfl⟩) fun u2 s2 ⟨y, H2, I2, ry, e1, e2⟩ => ?_
  subst e1 e2
  refine PyProof.Rows.args_nil ?_
  exact call_isi pins s2 σ H2 [x1, .ty id] [u, u2] Q I2 (.cons rx (.cons ry .nil)) (key x1 H2 q)
theorem pe_bitl (x : XOk p c X) {a : Expr} {ta : TE} {apos pos : Pos} (ha : PE X a ta) (g : goodH a = true) (hl : (apos.endLine == pos.line) = true) : PE X (.Call (.Attribute a "bit_length" apos) [] [] pos) (tU c .bitl ta) := by
  refine ⟨fun pins s σ H Q I h => ?_⟩
  refine PySem.Call_method0 (goodH_attr g) hl (thn (ha.run pins s σ H _ I h) fun v s1 ⟨x1, H1, I1, r1, q⟩ => ?_)
  obtain ⟨F, ws, fp, w, sm, rp, e, kk⟩ := rX_O rfl q
  obtain ⟨i, rfl, e2⟩ := i1_inv e
  cases e2
  obtain ⟨v1, g1, e3, r2⟩ := reps1 rp
  obtain ⟨rfl⟩ : x1 = v1 := by simpa using e3
  obtain ⟨rfl, _⟩ := r2
  obtain ⟨t, rfl⟩ := _root_.id r1
  refine ⟨"int", _, PySem.F.plainAttrs_int, PyProof.Rows.slot_int_bit_length, PyProof.Rows.type_int_bit_length, typeIs_int _ _ _, (fun _ e => nomatch e), Calls.callWith_builtin rfl (PySem.evalArgs_none (call_int_bit_length ⟨.int _, H1, I1.tok _, ⟨_, rfl⟩, kk _ [] ?_⟩))⟩
  refine ⟨?_, rfl⟩
  congr 1
  unfold Builtin.Int.intBits bitLen
  by_cases h0 : i = 0
  · subst h0
    rfl
  · have h1 : ¬ i.natAbs = 0 := by omega
    have h2 : ¬ (i == 0) = true := by simpa using h0
    rw [if_neg h1, if_neg h2]
/-- an operation of one part, from its part -/
theorem un_sound (x : XOk p c X) {o : O} {e a : Expr} {ta : TE} (hm : mUn p o e = some a) (ha : PE X a ta) : PE X e (tU c o ta) := by
  unfold mUn at hm
  split at hm
  · -- -a
    split at hm
    · cases hm
      exact pe_mono (pe_un (unr_mono v_neg fun x H Q q => rX_O rfl q) ha) fun σ H Q h => h
    · cases hm
  · -- a.f
    split at hm
    · obtain ⟨h1, rfl⟩ := guardP_inv hm
      obtain ⟨h1, h2⟩ := and2 h1
      obtain rfl := of_decide_eq_true h1
      rw [x.nm]
      exact pe_field x ha h2
    · cases hm
  · -- f(a)
    split at hm
    · split at hm
      · obtain ⟨h1, rfl⟩ := guardP_inv hm
        obtain ⟨h1, h2⟩ := and2 h1
        obtain ⟨h2, h3⟩ := and2 h2
        have b1 := x.blt h1
        have b2 := x.blt h2
        obtain rfl := b1.eq
        obtain rfl := b2.eq
        exact pe_lens x b1 b2 ha h3
      · cases hm
    · obtain ⟨h1, rfl⟩ := guardP_inv hm
      obtain ⟨h1, h2⟩ := and2 h1
      have b1 := x.blt h1
      obtain rfl := b1.eq
      exact callT1 (callr_mono v_int fun x H Q q => rX_O rfl q) b1 (by decide +kernel) ha h2 (by decide +kernel) (by decide +kernel)
    · obtain ⟨h1, rfl⟩ := guardP_inv hm
      obtain ⟨h1, h2⟩ := and2 h1
      have b1 := x.blt h1
      obtain rfl := b1.eq
      exact callT1 (callr_mono (m_list x.K) fun x H Q q => rX_M rfl q) b1 (by decide +kernel) ha h2 (by decide +kernel) (by decide +kernel)
    · obtain ⟨h1, rfl⟩ := guardP_inv hm
      obtain ⟨h1, h2⟩ := and2 h1
      have b1 := x.blt h1
      obtain rfl := b1.eq
      exact callT1 (callr_mono (m_tuple x.K) fun x H Q q => rX_M rfl q) b1 (by decide +kernel) ha h2 (by decide +kernel) (by decide +kernel)
    · obtain ⟨h1, rfl⟩ := guardP_inv hm
      obtain ⟨h1, h2⟩ := and2 h1
      have b1 := x.blt h1
      obtain rfl := b1.eq
      exact callB1 (callr_mono (m_sorted x.K) fun x H Q q => rX_M rfl q) b1 (by decide +kernel) ha h2 (by decide +kernel) (by decide +kernel)
    · split at hm
      · rename_i hc
        obtain ⟨h1, rfl⟩ := guardP_inv hm
        obtain ⟨h1, h2⟩ := and2 h1
        have b1 := x.blt h1
        obtain rfl := b1.eq
        obtain ⟨k1, k2, k3⟩ := boot_ok1 hc
        exact callB1 (callr_mono (v_call x.K x.calm hc) fun x H Q q => rX_O (callO_m hc) q) b1 k1 ha h2 k2 k3
      · cases hm
  · split at hm
    · split at hm
      · rename_i hz
        obtain ⟨h1, rfl⟩ := guardP_inv hm
        obtain ⟨h1, h2⟩ := and2 h1
        obtain ⟨h2, h3⟩ := and2 h2
        have b1 := x.blt h1
        have b2 := x.blt h2
        obtain rfl := b1.eq
        obtain rfl := b2.eq
        exact pe_isi x hz b1 b2 ha h3
      · cases hm
    · cases hm
  · split at hm
    · obtain ⟨h1, rfl⟩ := guardP_inv hm
      obtain ⟨h1, h2⟩ := and2 h1
      obtain ⟨h2, h3⟩ := and2 h2
      obtain rfl := of_decide_eq_true h1
      exact pe_bitl x ha h2 h3
    · cases hm
  · cases hm
theorem binO_m : ∀ {o : O} {op : Operator}, binO o = some op → o ≠ .add → o ≠ .mul → opM o = fun _ => none
  | .sub, _, rfl, _, _ => rfl
  | .fdiv, _, rfl, _, _ => rfl
  | .mod, _, rfl, _, _ => rfl
  | .pow, _, rfl, _, _ => rfl
  | .shl, _, rfl, _, _ => rfl
  | .shr, _, rfl, _, _ => rfl
  | .add, _, _, h, _ => absurd rfl h
  | .mul, _, _, _, h => absurd rfl h
theorem cmpO_m : ∀ {o : O} {op : CmpOp}, cmpO o = some op → opM o = fun _ => none
  | .eq, _, rfl => rfl
  | .ne, _, rfl => rfl
  | .lt, _, rfl => rfl
  | .le, _, rfl => rfl
  | .gt, _, rfl => rfl
  | .ge, _, rfl => rfl
  | .isN, _, rfl => rfl
  | .notN, _, rfl => rfl
  | .isB, _, rfl => rfl
  | .notB, _, rfl => rfl
  | .inn, _, rfl => rfl
  | .ninn, _, rfl => rfl
theorem x_bin (x : XOk p c X) {o : O} {op : Operator} (h : binO o = some op) : OpR X (binaryOp op) (fun a b H Q => rX c o [a, b] H Q) := by
  by_cases h1 : o = .add
  · subst h1
    cases h
    exact (v_bin rfl).or (m_add x.K)
  · by_cases h2 : o = .mul
    · subst h2
      cases h
      exact (v_bin rfl).or m_mul
    · exact opr_mono (v_bin h) fun a b H Q q => rX_O (binO_m h h1 h2) q
/-- slices from the front, to the end -/
theorem sl_ok (x : XOk p c X) (up : Bool) : ∀ (o : O), o = (if up then .slu else .sll) → ∀ (v : V) (k : Int) (H : Hp) (Q : VK), rX c o [v, .int k] H Q →
    rSlL X.K v (if up then none else some k) (if up then some k else none) H Q := by
  intro o ho v k H Q q
  have hM : rM c o [v, .int k] H Q := by
    subst ho
    cases up
    · exact rX_M rfl q
    · exact rX_M rfl q
  obtain ⟨F, ws, w, sm, rp, e, kk⟩ := hM
  have hO : opM o = w2 (slW up) := by
    subst ho
    cases up <;> rfl
  rw [hO] at e
  obtain ⟨a, b, rfl, e2⟩ := w2_inv e
  obtain ⟨v1, u1, e3, r1, r2⟩ := reps2n rp
  obtain ⟨rfl, rfl⟩ : v = v1 ∧ V.int k = u1 := by simpa using e3
  unfold slW at e2
  split at e2
  · rename_i o' xs k'
    obtain ⟨b, e4⟩ := guardO_inv e2
    cases e4
    have hk : 0 ≤ k' := of_decide_eq_true b
    obtain ⟨z, _⟩ := r2
    have ek : k = k' := by injection z
    subst ek
    obtain ⟨a, vs, rfl, h1, q1⟩ := lst_nil r1
    rw [x.K]
    refine ⟨a, vs, rfl, SqL.of (sm _ _ h1), fun p hp => ?_⟩
    have ekn : k = ((k.toNat : Nat) : Int) := by omega
    cases up
    · have e5 : cutV vs (some k) none = vs.drop k.toNat := by
        unfold cutV
        rw [ekn, HT.sIx_nat, HT.sIx_none]
        simp only [Int.toNat_natCast]
        by_cases hl : k.toNat ≤ vs.length
        · rw [Nat.min_eq_left hl, List.take_of_length_le (by rw [List.length_drop]; omega)]
        · rw [Nat.min_eq_right (by omega), List.drop_of_length_le (by omega), List.drop_of_length_le (by omega)]
          simp
      show Q (.ref p) (upd H p (.lst (cutV vs (some k) none)))
      rw [e5]
      exact new_lst sm (reps_drop k.toNat q1) rfl kk p hp
    · have e5 : cutV vs none (some k) = vs.take k.toNat := by
        unfold cutV
        rw [ekn, HT.sIx_nat, HT.sIx_none]
        simp only [Int.toNat_natCast, List.drop_zero, Nat.sub_zero]
        by_cases hl : k.toNat ≤ vs.length
        · rw [Nat.min_eq_left hl]
        · rw [Nat.min_eq_right (by omega), List.take_of_length_le (by omega), List.take_of_length_le (by omega)]
      show Q (.ref p) (upd H p (.lst (cutV vs none (some k))))
      rw [e5]
      exact new_lst sm (reps_take k.toNat q1) rfl kk p hp
  · cases e2
theorem sl_int {o : O} {v y : V} {H : Hp} {Q : VK} (ho : o = .slu ∨ o = .sll) (q : rX c o [v, y] H Q) : ∃ k, y = .int k := by
  have hM : rM c o [v, y] H Q := by
    rcases ho with rfl | rfl
    · exact rX_M rfl q
    · exact rX_M rfl q
  obtain ⟨F, ws, w, sm, rp, e, kk⟩ := hM
  have hO : ∃ up, opM o = w2 (slW up) := by
    rcases ho with rfl | rfl
    · exact ⟨true, rfl⟩
    · exact ⟨false, rfl⟩
  obtain ⟨up, hO⟩ := hO
  rw [hO] at e
  obtain ⟨a, b, rfl, e2⟩ := w2_inv e
  obtain ⟨v1, u1, e3, r1, r2⟩ := reps2n rp
  obtain ⟨rfl, rfl⟩ : v = v1 ∧ y = u1 := by simpa using e3
  unfold slW at e2
  split at e2
  · obtain ⟨rfl, _⟩ := r2
    exact ⟨_, rfl⟩
  · cases e2
/-- the same, closed under weaker ends -/
def mo (t : TE) : TE := fun σ H Q => ∃ Q0, t σ H Q0 ∧ ∀ v H, Q0 v H → Q v H
theorem pe_mo {e : Expr} {t : TE} (h : PE X e t) : PE X e (mo t) := ⟨fun pins s σ H Q I ⟨Q0, q, k⟩ => thn (h.run pins s σ H Q0 I q) fun u s1 ⟨v, H1, I1, r, q1⟩ => ⟨v, H1, I1, r, k v H1 q1⟩⟩
/-- an operation of two parts, from its parts -/
theorem bi_sound (x : XOk p c X) {o : O} {e a b : Expr} {ta tb : TE} (hm : mBi p o e = some (a, b)) (ha : PE X a ta) (hb : PE X b tb) : PE X e (tB2 c o ta tb) := by
  unfold mBi at hm
  split at hm
  · obtain ⟨h1, h2⟩ := guardP_inv hm
    cases h2
    exact pe_op (x_bin x (of_decide_eq_true h1)) ha hb
  · obtain ⟨h1, h2⟩ := guardP_inv hm
    cases h2
    obtain ⟨h1, h3⟩ := and2 h1
    have h1 := of_decide_eq_true h1
    exact pe_cmpR (opr_mono (v_cmp x.K x.room h1) fun a b H Q q => rX_O (cmpO_m h1) q) ha hb (by simpa using h3)
  · split at hm
    · obtain ⟨h1, h2⟩ := guardP_inv hm
      cases h2
      exact pe_ix (ixr_mono (v_idx x.K) fun a b H Q q => rX_O rfl q) ha hb (goodH_ix h1)
    · split at hm
      · cases hm
        refine pe_mono (pe_slice sl_list (pe_mo ha) po_none (po_some (pe_mo hb))) fun σ H Q h => ⟨_, h, fun v H1 q => ⟨_, q, fun y H2 q2 => ?_⟩⟩
        obtain ⟨k, rfl⟩ := sl_int (.inl rfl) q2
        exact ⟨k, rfl, sl_ok x true _ rfl v k H2 Q q2⟩
      · cases hm
    · split at hm
      · cases hm
        refine pe_mono (pe_slice sl_list (pe_mo ha) (po_some (pe_mo hb)) po_none) fun σ H Q h => ⟨_, h, fun v H1 q => ⟨_, q, fun y H2 q2 => ?_⟩⟩
        obtain ⟨k, rfl⟩ := sl_int (.inr rfl) q2
        exact ⟨k, rfl, sl_ok x false _ rfl v k H2 Q q2⟩
      · cases hm
    · cases hm
  · split at hm
    · rename_i hc
      obtain ⟨h1, h2⟩ := guardP_inv hm
      cases h2
      obtain ⟨h1, h2⟩ := and2 h1
      obtain ⟨h2, h3⟩ := and2 h2
      have b1 := x.blt h1
      obtain rfl := b1.eq
      obtain ⟨k1, k2, k3⟩ := boot_ok1 hc
      exact pe_mono (pe_callB (callr_mono (v_call x.K x.calm hc) fun x H Q q => rX_O (callO_m hc) q) b1.gl b1.no k1 (pa_two ha h2 hb h3) k2 k3 (goodH_star h2) (by rw [goodH_star h3]; rfl)) fun σ H Q h => h
    · cases hm
  · cases hm
end
end Nb
end
section
set_option maxRecDepth 100000
namespace Nb
open PySem PySem.Spec PyProof.Rows L2
def plainT : Expr → Bool
  | .UnaryOp .Not _ _ => false
  | .BoolOp _ _ _ => false
  | .IfExp _ _ _ _ => false
  | .Compare _ _ _ _ => false
  | _ => true
theorem plainT_ok {e : Expr} {env : PySem.Env} (h : plainT e = true) (whole : Sem Value) : isTrue e env whole = (do let v ← whole; standAt e.pos; holding [v] (truthy v)) := by
  cases e <;> first | rfl | (cases h; done) | skip
  rename_i op a pos
  cases op <;> first | rfl | (cases h; done)
section
variable {p : Pl} {c : Cn} {X : Cx}
theorem pt_plain {e : Expr} {t : TE} (h : PE X e t) (hp : plainT e = true) : PT X e (tB t) := pt_val h (plainT_ok hp)
theorem bi_soundT (x : XOk p c X) {o : O} {e a b : Expr} {ta tb : TE} (hm : mBi p o e = some (a, b)) (ha : PE X a ta) (hb : PE X b tb) : PT X e (tB (tB2 c o ta tb)) := by
  by_cases h : plainT e = true
  · exact pt_plain (bi_sound x hm ha hb) h
  · unfold mBi at hm
    split at hm
    · exact absurd rfl h
    · obtain ⟨h1, h2⟩ := guardP_inv hm
      cases h2
      obtain ⟨h1, h3⟩ := and2 h1
      have h1 := of_decide_eq_true h1
      exact pt_cmpR (opr_mono (v_cmp x.K x.room h1) fun a b H Q q => rX_O (cmpO_m h1) q) ha hb (by simpa using h3)
    · exact absurd rfl h
    · exact absurd rfl h
    · cases hm
theorem un_soundT (x : XOk p c X) {o : O} {e a : Expr} {ta : TE} (hm : mUn p o e = some a) (ha : PE X a ta) : PT X e (tB (tU c o ta)) := by
  refine pt_plain (un_sound x hm ha) ?_
  unfold mUn at hm
  split at hm <;> first | rfl | (cases hm; done)
/-! ### names -/
def mVar (p : Pl) (i : Nat) : Expr → Bool
  | .Name x _ => decide (p.N[i]? = some x) && (visB p x && noDbg x)
  | _ => false
theorem XOk.vis (x : XOk p c X) {y : Str} (h : visB p y = true) : Vis X.env.scope y := by
  unfold visB at h
  rw [← x.sc] at h
  split at h
  · rename_i e
    exact .inl e
  · rename_i e
    exact .inr (.inl e)
  · rename_i e
    exact .inr (.inr e)
  · cases h
theorem noDbg_ok {y : Str} (h : noDbg y = true) : (y == ("__debug__" : Str)) = false ∧ (y == ("__classdict__" : Str)) = false ∧ y ≠ "__name__" := by
  unfold noDbg at h
  obtain ⟨h1, h2⟩ := and2 h
  obtain ⟨h2, h3⟩ := and2 h2
  refine ⟨by simpa using h1, by simpa using h2, fun e => ?_⟩
  rw [e] at h3
  simp at h3
theorem var_sound (x : XOk p c X) {i : Nat} {e : Expr} (h : mVar p i e = true) : PE X e (tVar i) := by
  unfold mVar at h
  split at h
  · obtain ⟨h1, h2⟩ := and2 h
    obtain ⟨h2, h3⟩ := and2 h2
    obtain ⟨d1, d2, _⟩ := noDbg_ok h3
    exact pe_var (by rw [x.N]; exact of_decide_eq_true h1) (x.vis h2) d1 d2
  · cases h
/-- forms that are tests of parts -/
def okP : P → Bool
  | .ife _ _ _ => false
  | .and_ a b => okP a && okP b
  | .or_ a b => okP a && okP b
  | .not_ a => okP a
  | _ => true
/-! ### and, or, chains -/
def mAnd : Expr → Option (Expr × Expr)
  | .BoolOp .And (e :: f :: r) pos => match r with
    | [] => some (e, f)
    | g :: r => some (e, .BoolOp .And (f :: g :: r) pos)
  | _ => none
def mOr : Expr → Option (Expr × Expr)
  | .BoolOp .Or (e :: f :: r) pos => match r with
    | [] => some (e, f)
    | g :: r => some (e, .BoolOp .Or (f :: g :: r) pos)
  | _ => none
def mNot : Expr → Option Expr
  | .UnaryOp .Not e _ => some e
  | _ => none
def mIf : Expr → Option (Expr × Expr × Expr)
  | .IfExp e f g _ => some (e, f, g)
  | _ => none
def mChn (o o' : O) : Expr → Option (Expr × Expr × Expr)
  | .Compare e [op, op'] [f, g] _ => guardP (decide (cmpO o = some op) && (decide (cmpO o' = some op') && !lastMarks [op, op'] [f, g])) (e, f, g)
  | _ => none
def isBO : Expr → Bool
  | .BoolOp _ _ _ => true
  | _ => false
theorem and_pe {e a b : Expr} {ta tb : TE} (hm : mAnd e = some (a, b)) (ha : PE X a ta) (hb : PE X b tb) : PE X e (tAndV ta tb) := by
  unfold mAnd at hm
  split at hm
  · split at hm
    · cases hm
      exact pe_and ha (pe_one hb)
    · cases hm
      exact pe_and ha hb
  · cases hm
theorem or_pe {e a b : Expr} {ta tb : TE} (hm : mOr e = some (a, b)) (ha : PE X a ta) (hb : PE X b tb) : PE X e (tOrV ta tb) := by
  unfold mOr at hm
  split at hm
  · split at hm
    · cases hm
      exact pe_or ha (pe_one hb)
    · cases hm
      exact pe_or ha hb
  · cases hm
theorem and_pw {e a b : Expr} {ta tb : TT} (hm : mAnd e = some (a, b)) (ha : PT X a ta) (hb : PT X b tb) (hw : isBO b = true → PW X b tb) : PW X e (tAnd ta tb) := by
  unfold mAnd at hm
  split at hm
  · split at hm
    · cases hm
      exact pw_and ha (pw_and1 hb)
    · cases hm
      exact pw_and ha (hw rfl)
  · cases hm
theorem or_pw {e a b : Expr} {ta tb : TT} (hm : mOr e = some (a, b)) (ha : PT X a ta) (hb : PT X b tb) (hw : isBO b = true → PW X b tb) : PW X e (tOr ta tb) := by
  unfold mOr at hm
  split at hm
  · split at hm
    · cases hm
      exact pw_or ha (pw_or1 hb)
    · cases hm
      exact pw_or ha (hw rfl)
  · cases hm
theorem not_pe {e a : Expr} {ta : TE} (hm : mNot e = some a) (ha : PE X a ta) : PE X e (tNotV ta) := by
  unfold mNot at hm
  split at hm
  · cases hm
    exact pe_not ha
  · cases hm
theorem not_pt {e a : Expr} {ta : TT} (hm : mNot e = some a) (ha : PT X a ta) : PT X e (tNot ta) := by
  unfold mNot at hm
  split at hm
  · cases hm
    exact pt_not ha
  · cases hm
theorem if_pe {e a b d : Expr} {tt : TT} {ta tb : TE} (hm : mIf e = some (d, a, b)) (hd : PT X d tt) (ha : PE X a ta) (hb : PE X b tb) : PE X e (tIf tt ta tb) := by
  unfold mIf at hm
  split at hm
  · cases hm
    exact pe_ifExp hd ha hb
  · cases hm
def tChn (c : Cn) (o o' : O) (ta tb td : TE) : TE := tChain (fun a b H Q => rO c o [a, b] H Q) (fun a b H Q => rO c o' [a, b] H Q) ta tb td
theorem chn_pe (x : XOk p c X) {o o' : O} {e a b d : Expr} {ta tb td : TE} (hm : mChn o o' e = some (a, b, d)) (ha : PE X a ta) (hb : PE X b tb) (hd : PE X d td) : PE X e (tChn c o o' ta tb td) ∧ PT X e (tTest (tChn c o o' ta tb td)) := by
  unfold mChn at hm
  split at hm
  · obtain ⟨h1, h2⟩ := guardP_inv hm
    cases h2
    obtain ⟨h1, h2⟩ := and2 h1
    obtain ⟨h2, h3⟩ := and2 h2
    exact ⟨pe_chain (v_cmp x.K x.room (of_decide_eq_true h1)) (v_cmp x.K x.room (of_decide_eq_true h2)) ha hb hd (by simpa using h3), pt_chain (v_cmp x.K x.room (of_decide_eq_true h1)) (v_cmp x.K x.room (of_decide_eq_true h2)) ha hb hd (by simpa using h3)⟩
  · cases hm
/-! ### pure expressions -/
def mCst (w : W) : Expr → Bool
  | .Constant k _ _ => cstB w k
  | _ => false
def mGlb (p : Pl) (n : Nat) (i : Int) : Expr → Bool
  | .Name x _ => decide (p.nm n = x) && (gloB p x && (noDbg x && p.mis.contains (n, i)))
  | _ => false
def cP (p : Pl) : P → Expr → Bool
  | .peek i, e => mVar p i e
  | .cst w, e => mCst w e
  | .glb n i, e => mGlb p n i e
  | .un o a, e => match mUn p o e with
    | some e1 => cP p a e1
    | none => false
  | .bi o a b, e => match mBi p o e with
    | some (e1, e2) => cP p a e1 && cP p b e2
    | none => false
  | .and_ a b, e => match mAnd e with
    | some (e1, e2) => cP p a e1 && cP p b e2
    | none => false
  | .or_ a b, e => match mOr e with
    | some (e1, e2) => cP p a e1 && cP p b e2
    | none => false
  | .not_ a, e => match mNot e with
    | some e1 => cP p a e1
    | none => false
  | .ife t a b, e => match mIf e with
    | some (e0, e1, e2) => okP t && (cP p t e0 && (cP p a e1 && cP p b e2))
    | none => false
  | .chn o o' a b d, e => match mChn o o' e with
    | some (e0, e1, e2) => cP p a e0 && (cP p b e1 && cP p d e2)
    | none => false
def tPT (c : Cn) (p : P) : TT := fun σ H Q => ∃ F env fp fr b, Rel c F H env σ fp fr ∧ evP env p = some (.bl b) ∧ Q b H
theorem rep1 {F H : Hp} {w : W} {v : V} {f : List Addr} (r : Rep c F H w v f) : Reps c F H [w] [v] f := ⟨v, [], f, [], rfl, by simp, r, rfl, rfl⟩
theorem rep2 {F H : Hp} {w u : W} {v x : V} {f g : List Addr} (r : Rep c F H w v f) (q : Rep c F H u x g) : Reps c F H [w, u] [v, x] (f ++ g) := ⟨v, [x], f, g, rfl, rfl, r, rep1 q⟩
theorem tP_T {q : P} {e : Expr} (h : PE X e (tP c q)) (hp : plainT e = true) : PT X e (tPT c q) := by
  refine pt_mono (pt_plain h hp) fun σ H Q ⟨F, env, fp, fr, b, R, e1, k⟩ => ⟨F, env, fp, fr, _, R, e1, fun v fpw r => ?_⟩
  obtain ⟨rfl, _⟩ := r
  exact ⟨b, rfl, k⟩
theorem P_sound (x : XOk p c X) : ∀ q : P, (∀ e, cP p q e = true → PE X e (tP c q)) ∧ (okP q = true → ∀ e, cP p q e = true → PT X e (tPT c q)) ∧
    (okP q = true → ∀ e, cP p q e = true → isBO e = true → PW X e (tPT c q)) := by
  intro q
  induction q with
  | peek i =>
    have h1 : ∀ e, cP p (.peek i) e = true → PE X e (tP c (.peek i)) := fun e h => by
      refine pe_mono (var_sound x h) fun σ H Q ⟨F, env, fp, fr, w, R, e1, k⟩ => ?_
      obtain ⟨v, hv, r⟩ := R.slot i w e1
      exact ⟨v, hv, k v _ r⟩
    refine ⟨h1, fun _ e h => tP_T (h1 e h) ?_, fun _ e h hb => ?_⟩
    · have h2 : mVar p i e = true := h
      cases e <;> first | rfl | (cases h2; done)
    · have h2 : mVar p i e = true := h
      cases e <;> first | (cases h2; done) | (cases hb; done)
  | cst w =>
    have h1 : ∀ e, cP p (.cst w) e = true → PE X e (tP c (.cst w)) := fun e h => by
      have h2 : mCst w e = true := h
      cases e <;> first | (cases h2; done) | skip
      obtain ⟨v, hv, r⟩ := cst_ok (c := c) h2
      refine pe_mono hv fun σ H Q ⟨F, env, fp, fr, w, R, e1, k⟩ => ?_
      cases e1
      exact k v [] (r F H)
    refine ⟨h1, fun _ e h => tP_T (h1 e h) ?_, fun _ e h hb => ?_⟩
    · have h2 : mCst w e = true := h
      cases e <;> first | rfl | (cases h2; done)
    · have h2 : mCst w e = true := h
      cases e <;> first | (cases h2; done) | (cases hb; done)
  | glb n i =>
    have h1 : ∀ e, cP p (.glb n i) e = true → PE X e (tP c (.glb n i)) := fun e h => by
      have h2 : mGlb p n i e = true := h
      cases e <;> first | (cases h2; done) | skip
      rename_i y pos
      obtain ⟨a1, a2⟩ := and2 h2
      obtain ⟨a2, a3⟩ := and2 a2
      obtain ⟨a3, a4⟩ := and2 a3
      obtain rfl := of_decide_eq_true a1
      obtain ⟨t, ht⟩ := x.mis (n, i) (List.contains_iff_mem.mp a4)
      refine pe_mono (pe_glob (v := .int i) (x.glo a2) (by rw [x.nm]; exact ht) ⟨t, rfl⟩ (noDbg_ok a3).1) fun σ H Q ⟨F, env, fp, fr, w, R, e1, k⟩ => ?_
      cases e1
      exact k _ [] (rep_int F H)
    refine ⟨h1, fun _ e h => tP_T (h1 e h) ?_, fun _ e h hb => ?_⟩
    · have h2 : mGlb p n i e = true := h
      cases e <;> first | rfl | (cases h2; done)
    · have h2 : mGlb p n i e = true := h
      cases e <;> first | (cases h2; done) | (cases hb; done)
  | un o a ih =>
    have hr : ∀ (σ : L2.St) (H : Hp) (Q : VK) (F : Hp) env fp fr w, Rel c F H env σ fp fr → evP env (.un o a) = some w → (∀ v fpw, Rep c F H w v fpw → Q v H) → tU c o (tP c a) σ H Q := fun σ H Q F env fp fr w R e1 k => by
      unfold evP at e1
      cases ea : evP env a with
      | none =>
        rw [ea] at e1
        cases e1
      | some y =>
        rw [ea] at e1
        exact ⟨F, env, fp, fr, y, R, ea, fun v fv r => .inl ⟨F, [y], fv, w, R.same, rep1 r, e1, k⟩⟩
    have inv : ∀ {e}, cP p (.un o a) e = true → ∃ e1, mUn p o e = some e1 ∧ cP p a e1 = true := fun {e} h => by
      unfold cP at h
      split at h
      · rename_i e1 hm
        exact ⟨e1, hm, h⟩
      · cases h
    refine ⟨fun e h => ?_, fun _ e h => ?_, fun _ e h hb => ?_⟩
    · obtain ⟨e1, hm, h⟩ := inv h
      exact pe_mono (un_sound x hm (ih.1 e1 h)) fun σ H Q ⟨F, env, fp, fr, w, R, e1, k⟩ => hr σ H Q F env fp fr w R e1 k
    · obtain ⟨e1, hm, h⟩ := inv h
      refine pt_mono (un_soundT x hm (ih.1 e1 h)) fun σ H Q ⟨F, env, fp, fr, b, R, e1, k⟩ => hr σ H _ F env fp fr _ R e1 fun v fpw r => ?_
      obtain ⟨rfl, _⟩ := r
      exact ⟨b, rfl, k⟩
    · obtain ⟨e1, hm, h⟩ := inv h
      cases e <;> first | (cases hb; done) | (cases hm; done)
  | bi o a b iha ihb =>
    have hr : ∀ (σ : L2.St) (H : Hp) (Q : VK) (F : Hp) env fp fr w, Rel c F H env σ fp fr → evP env (.bi o a b) = some w → (∀ v fpw, Rep c F H w v fpw → Q v H) → tB2 c o (tP c a) (tP c b) σ H Q := fun σ H Q F env fp fr w R e1 k => by
      unfold evP at e1
      cases ea : evP env a with
      | none =>
        rw [ea] at e1
        cases e1
      | some y =>
        cases eb : evP env b with
        | none =>
          rw [ea, eb] at e1
          cases e1
        | some z =>
          rw [ea, eb] at e1
          exact ⟨F, env, fp, fr, y, R, ea, fun v fv r => ⟨F, env, fp, fr, z, R, eb, fun u fu q => .inl ⟨F, [y, z], fv ++ fu, w, R.same, rep2 r q, e1, k⟩⟩⟩
    have inv : ∀ {e}, cP p (.bi o a b) e = true → ∃ e1 e2, mBi p o e = some (e1, e2) ∧ cP p a e1 = true ∧ cP p b e2 = true := fun {e} h => by
      unfold cP at h
      split at h
      · rename_i e1 e2 hm
        obtain ⟨g1, g2⟩ := and2 h
        exact ⟨e1, e2, hm, g1, g2⟩
      · cases h
    refine ⟨fun e h => ?_, fun _ e h => ?_, fun _ e h hb => ?_⟩
    · obtain ⟨e1, e2, hm, g1, g2⟩ := inv h
      exact pe_mono (bi_sound x hm (iha.1 e1 g1) (ihb.1 e2 g2)) fun σ H Q ⟨F, env, fp, fr, w, R, e1, k⟩ => hr σ H Q F env fp fr w R e1 k
    · obtain ⟨e1, e2, hm, g1, g2⟩ := inv h
      refine pt_mono (bi_soundT x hm (iha.1 e1 g1) (ihb.1 e2 g2)) fun σ H Q ⟨F, env, fp, fr, b, R, e1, k⟩ => hr σ H _ F env fp fr _ R e1 fun v fpw r => ?_
      obtain ⟨rfl, _⟩ := r
      exact ⟨b, rfl, k⟩
    · obtain ⟨e1, e2, hm, g1, g2⟩ := inv h
      cases e <;> first | (cases hb; done) | (cases hm; done)
  | and_ a b iha ihb =>
    have ev : ∀ {env w}, evP env (.and_ a b) = some w → (evP env a = some (.bl true) ∧ evP env b = some w) ∨ (evP env a = some (.bl false) ∧ w = .bl false) := fun {env w} e1 => by
      unfold evP at e1
      split at e1
      · rename_i ea
        exact .inl ⟨ea, e1⟩
      · rename_i ea
        cases e1
        exact .inr ⟨ea, rfl⟩
      · cases e1
    have inv : ∀ {e}, cP p (.and_ a b) e = true → ∃ e1 e2, mAnd e = some (e1, e2) ∧ cP p a e1 = true ∧ cP p b e2 = true := fun {e} h => by
      unfold cP at h
      split at h
      · rename_i e1 e2 hm
        obtain ⟨g1, g2⟩ := and2 h
        exact ⟨e1, e2, hm, g1, g2⟩
      · cases h
    have pw : okP (.and_ a b) = true → ∀ e, cP p (.and_ a b) e = true → PW X e (tPT c (.and_ a b)) := fun ho e h => by
      obtain ⟨oa, ob⟩ := and2 ho
      obtain ⟨e1, e2, hm, g1, g2⟩ := inv h
      refine ⟨fun wh pins s σ H Q I ⟨F, env, fp, fr, t, R, e1, k⟩ => (and_pw hm (iha.2.1 oa _ g1) (ihb.2.1 ob _ g2) (ihb.2.2 ob _ g2)).run wh pins s σ H Q I ?_⟩
      rcases ev e1 with ⟨ea, eb⟩ | ⟨ea, eb⟩
      · exact ⟨F, env, fp, fr, true, R, ea, iteT ⟨F, env, fp, fr, t, R, eb, k⟩⟩
      · cases eb
        exact ⟨F, env, fp, fr, false, R, ea, iteF k⟩
    refine ⟨fun e h => ?_, fun ho e h => (pw ho e h).pt, fun ho e h _ => pw ho e h⟩
    obtain ⟨e1, e2, hm, g1, g2⟩ := inv h
    refine pe_mono (and_pe hm (iha.1 _ g1) (ihb.1 _ g2)) fun σ H Q ⟨F, env, fp, fr, w, R, e1, k⟩ => ?_
    rcases ev e1 with ⟨ea, eb⟩ | ⟨ea, eb⟩
    · refine ⟨F, env, fp, fr, _, R, ea, fun v fv r => ?_⟩
      obtain ⟨rfl, _⟩ := r
      exact ⟨true, rfl, iteT ⟨F, env, fp, fr, w, R, eb, k⟩⟩
    · cases eb
      refine ⟨F, env, fp, fr, _, R, ea, fun v fv r => ?_⟩
      obtain ⟨rfl, _⟩ := r
      exact ⟨false, rfl, iteF (k _ [] (rep_bl F H))⟩
  | or_ a b iha ihb =>
    have ev : ∀ {env w}, evP env (.or_ a b) = some w → (evP env a = some (.bl false) ∧ evP env b = some w) ∨ (evP env a = some (.bl true) ∧ w = .bl true) := fun {env w} e1 => by
      unfold evP at e1
      split at e1
      · rename_i ea
        cases e1
        exact .inr ⟨ea, rfl⟩
      · rename_i ea
        exact .inl ⟨ea, e1⟩
      · cases e1
    have inv : ∀ {e}, cP p (.or_ a b) e = true → ∃ e1 e2, mOr e = some (e1, e2) ∧ cP p a e1 = true ∧ cP p b e2 = true := fun {e} h => by
      unfold cP at h
      split at h
      · rename_i e1 e2 hm
        obtain ⟨g1, g2⟩ := and2 h
        exact ⟨e1, e2, hm, g1, g2⟩
      · cases h
    have pw : okP (.or_ a b) = true → ∀ e, cP p (.or_ a b) e = true → PW X e (tPT c (.or_ a b)) := fun ho e h => by
      obtain ⟨oa, ob⟩ := and2 ho
      obtain ⟨e1, e2, hm, g1, g2⟩ := inv h
      refine ⟨fun wh pins s σ H Q I ⟨F, env, fp, fr, t, R, e1, k⟩ => (or_pw hm (iha.2.1 oa _ g1) (ihb.2.1 ob _ g2) (ihb.2.2 ob _ g2)).run wh pins s σ H Q I ?_⟩
      rcases ev e1 with ⟨ea, eb⟩ | ⟨ea, eb⟩
      · exact ⟨F, env, fp, fr, false, R, ea, iteF ⟨F, env, fp, fr, t, R, eb, k⟩⟩
      · cases eb
        exact ⟨F, env, fp, fr, true, R, ea, iteT k⟩
    refine ⟨fun e h => ?_, fun ho e h => (pw ho e h).pt, fun ho e h _ => pw ho e h⟩
    obtain ⟨e1, e2, hm, g1, g2⟩ := inv h
    refine pe_mono (or_pe hm (iha.1 _ g1) (ihb.1 _ g2)) fun σ H Q ⟨F, env, fp, fr, w, R, e1, k⟩ => ?_
    rcases ev e1 with ⟨ea, eb⟩ | ⟨ea, eb⟩
    · refine ⟨F, env, fp, fr, _, R, ea, fun v fv r => ?_⟩
      obtain ⟨rfl, _⟩ := r
      exact ⟨false, rfl, iteF ⟨F, env, fp, fr, w, R, eb, k⟩⟩
    · cases eb
      refine ⟨F, env, fp, fr, _, R, ea, fun v fv r => ?_⟩
      obtain ⟨rfl, _⟩ := r
      exact ⟨true, rfl, iteT (k _ [] (rep_bl F H))⟩
  | not_ a iha =>
    have ev : ∀ {env w}, evP env (.not_ a) = some w → ∃ b, evP env a = some (.bl b) ∧ w = .bl !b := fun {env w} e1 => by
      unfold evP at e1
      split at e1
      · rename_i b ea
        cases e1
        exact ⟨b, ea, rfl⟩
      · cases e1
    have inv : ∀ {e}, cP p (.not_ a) e = true → ∃ e1, mNot e = some e1 ∧ cP p a e1 = true := fun {e} h => by
      unfold cP at h
      split at h
      · rename_i e1 hm
        exact ⟨e1, hm, h⟩
      · cases h
    refine ⟨fun e h => ?_, fun ho e h => ?_, fun _ e h hb => ?_⟩
    · obtain ⟨e1, hm, g1⟩ := inv h
      refine pe_mono (not_pe hm (iha.1 e1 g1)) fun σ H Q ⟨F, env, fp, fr, w, R, e1, k⟩ => ?_
      obtain ⟨b, ea, rfl⟩ := ev e1
      refine ⟨F, env, fp, fr, _, R, ea, fun v fv r => ?_⟩
      obtain ⟨rfl, _⟩ := r
      exact ⟨b, rfl, k _ [] (rep_bl F H)⟩
    · obtain ⟨e1, hm, g1⟩ := inv h
      refine pt_mono (not_pt hm (iha.2.1 ho e1 g1)) fun σ H Q ⟨F, env, fp, fr, w, R, e1, k⟩ => ?_
      obtain ⟨b, ea, eb⟩ := ev e1
      cases eb
      exact ⟨F, env, fp, fr, b, R, ea, k⟩
    · obtain ⟨e1, hm, g1⟩ := inv h
      cases e <;> first | (cases hb; done) | (cases hm; done)
  | ife t a b iht iha ihb =>
    have inv : ∀ {e}, cP p (.ife t a b) e = true → ∃ e0 e1 e2, mIf e = some (e0, e1, e2) ∧ okP t = true ∧ cP p t e0 = true ∧ cP p a e1 = true ∧ cP p b e2 = true := fun {e} h => by
      unfold cP at h
      split at h
      · rename_i e0 e1 e2 hm
        obtain ⟨g0, g1⟩ := and2 h
        obtain ⟨g1, g2⟩ := and2 g1
        obtain ⟨g2, g3⟩ := and2 g2
        exact ⟨e0, e1, e2, hm, g0, g1, g2, g3⟩
      · cases h
    refine ⟨fun e h => ?_, fun ho => (Bool.false_ne_true ho).elim, fun ho => (Bool.false_ne_true ho).elim⟩
    obtain ⟨e0, e1, e2, hm, g0, g1, g2, g3⟩ := inv h
    refine pe_mono (if_pe hm (iht.2.1 g0 _ g1) (iha.1 _ g2) (ihb.1 _ g3)) fun σ H Q ⟨F, env, fp, fr, w, R, e1, k⟩ => ?_
    unfold evP at e1
    split at e1
    · rename_i et
      exact ⟨F, env, fp, fr, true, R, et, iteT ⟨F, env, fp, fr, w, R, e1, k⟩⟩
    · rename_i et
      exact ⟨F, env, fp, fr, false, R, et, iteF ⟨F, env, fp, fr, w, R, e1, k⟩⟩
    · cases e1
  | chn o o' a b d iha ihb ihd =>
    have inv : ∀ {e}, cP p (.chn o o' a b d) e = true → ∃ e0 e1 e2, mChn o o' e = some (e0, e1, e2) ∧ cP p a e0 = true ∧ cP p b e1 = true ∧ cP p d e2 = true := fun {e} h => by
      unfold cP at h
      split at h
      · rename_i e0 e1 e2 hm
        obtain ⟨g1, g2⟩ := and2 h
        obtain ⟨g2, g3⟩ := and2 g2
        exact ⟨e0, e1, e2, hm, g1, g2, g3⟩
      · cases h
    have hr : ∀ (σ : L2.St) (H : Hp) (Q : VK) (F : Hp) env fp fr w, Rel c F H env σ fp fr → evP env (.chn o o' a b d) = some w → (∀ v fpw, Rep c F H w v fpw → Q v H) → tChn c o o' (tP c a) (tP c b) (tP c d) σ H Q := fun σ H Q F env fp fr w R e1 k => by
      unfold evP at e1
      split at e1
      · rename_i y z ea eb
        refine ⟨F, env, fp, fr, y, R, ea, fun v fv r => ⟨F, env, fp, fr, z, R, eb, fun u fu q => ?_⟩⟩
        split at e1
        · rename_i eo
          refine ⟨F, [y, z], fv ++ fu, _, R.same, rep2 r q, eo, fun x fx rx => ?_⟩
          obtain ⟨rfl, _⟩ := rx
          refine ⟨true, rfl, iteT ?_⟩
          split at e1
          · rename_i z2 ed
            exact ⟨F, env, fp, fr, z2, R, ed, fun v2 f2 r2 => ⟨F, [z, z2], fu ++ f2, w, R.same, rep2 q r2, e1, k⟩⟩
          · cases e1
        · rename_i eo
          refine ⟨F, [y, z], fv ++ fu, _, R.same, rep2 r q, eo, fun x fx rx => ?_⟩
          obtain ⟨rfl, _⟩ := rx
          cases e1
          exact ⟨false, rfl, iteF (k _ [] (rep_bl F H))⟩
        · cases e1
      · cases e1
    refine ⟨fun e h => ?_, fun ho e h => ?_, fun _ e h hb => ?_⟩
    · obtain ⟨e0, e1, e2, hm, g1, g2, g3⟩ := inv h
      exact pe_mono (chn_pe x hm (iha.1 _ g1) (ihb.1 _ g2) (ihd.1 _ g3)).1 fun σ H Q ⟨F, env, fp, fr, w, R, e1, k⟩ => hr σ H Q F env fp fr w R e1 k
    · obtain ⟨e0, e1, e2, hm, g1, g2, g3⟩ := inv h
      refine pt_mono (chn_pe x hm (iha.1 _ g1) (ihb.1 _ g2) (ihd.1 _ g3)).2 fun σ H Q ⟨F, env, fp, fr, b, R, e1, k⟩ => hr σ H _ F env fp fr _ R e1 fun v fpw r => ?_
      obtain ⟨rfl, _⟩ := r
      exact ⟨b, rfl, k⟩
    · obtain ⟨e0, e1, e2, hm, g1, g2, g3⟩ := inv h
      cases e <;> first | (cases hb; done) | (cases hm; done)
end
end Nb
end
section
set_option maxRecDepth 100000
namespace Nb
open PySem PySem.Spec PyProof.Rows L2
/-! ### values without flags -/
mutual
theorem frz_isF : ∀ w : W, w.frz.isF = true
  | .non => rfl | .bl _ => rfl | .int _ => rfl | .str _ => rfl | .fn _ => rfl
  | .tup ws => frzs_isF ws
  | .lst _ ws => by
    show (!false && isFs (frzs ws)) = true
    rw [frzs_isF ws] <;> rfl
  | .dic _ ks vs => by
    show (!false && (isFs (frzs ks) && isFs (frzs vs))) = true
    rw [frzs_isF ks, frzs_isF vs] <;> rfl
  | .ins _ c fs ws => by
    show (!false && isFs (frzs ws)) = true
    rw [frzs_isF ws] <;> rfl
  | .set _ => rfl | .rng _ _ => rfl | .scr _ => rfl
theorem frzs_isF : ∀ ws : List W, isFs (frzs ws) = true
  | [] => rfl
  | w :: ws => by
    show (w.frz.isF && isFs (frzs ws)) = true
    rw [frz_isF w, frzs_isF ws] <;> rfl
end
theorem isFs_get : ∀ {ws : List W} {k : Nat} {w : W}, isFs ws = true → ws[k]? = some w → w.isF = true
  | [], _, _, _, h => by simp at h
  | x :: xs, 0, w, h, e => by
    simp at e
    subst e
    exact (and2 h).1
  | x :: xs, k + 1, w, h, e => isFs_get (and2 h).2 (by simpa using e)
theorem seq_isF {x : W} {ys : List W} (h : x.isF = true) (e : x.seq? = some ys) : isFs ys = true := by
  cases x <;> first | (cases e; done) | skip
  · cases e
    exact h
  · cases e
    exact (and2 h).2
  · cases e
    rename_i ns
    induction ns with
    | nil => rfl
    | cons n ns ih => exact ih rfl
theorem opF_isF : ∀ {o : O} {ws : List W} {w : W}, isFs ws = true → opF o ws = some w → w.isF = true := by
  intro o ws w hf h
  cases o <;> first | (cases h; done) | skip
  all_goals try (
    obtain ⟨i, j, rfl, e⟩ := ii_inv h
    first
      | (cases e; rfl)
      | (obtain ⟨_, e2⟩ := guardO_inv e; cases e2; rfl))
  all_goals try (
    obtain ⟨i, rfl, e⟩ := i1_inv h
    cases e
    rfl)
  all_goals try (
    obtain ⟨x, y, rfl, e⟩ := w2_inv h
    obtain ⟨_, e2⟩ := guardO_inv e
    cases e2
    rfl)
  · obtain ⟨x, y, rfl, e⟩ := w2_inv h
    split at e
    · cases e
      rfl
    · cases e
  · obtain ⟨x, y, rfl, e⟩ := w2_inv h
    split at e
    · cases e
      rfl
    · cases e
  · obtain ⟨x, y, rfl, e⟩ := w2_inv h
    split at e
    · obtain ⟨_, e2⟩ := guardO_inv e
      cases e2
      rfl
    · obtain ⟨_, e2⟩ := guardO_inv e
      cases e2
      rfl
    · cases e
  · obtain ⟨x, y, rfl, e⟩ := w2_inv h
    split at e
    · obtain ⟨_, e2⟩ := guardO_inv e
      cases e2
      rfl
    · obtain ⟨_, e2⟩ := guardO_inv e
      cases e2
      rfl
    · cases e
  · obtain ⟨x, y, rfl, e⟩ := w2_inv h
    cases y <;> first | (cases e; done) | skip
    unfold idxW at e
    cases es : x.seq? with
    | none =>
      rw [es] at e
      cases e
    | some ys =>
      rw [es] at e
      simp only at e
      split at e
      · exact isFs_get (seq_isF (and2 hf).1 es) e
      · cases e
  · obtain ⟨x, rfl, e⟩ := w1_inv h
    cases x <;> first | (cases e; done) | skip
    unfold fldW at e
    simp only at e
    split at e
    · exact isFs_get (and2 (and2 hf).1).2 e
    · cases e
  all_goals (
    obtain ⟨x, rfl, e⟩ := w1_inv h
    first
      | (obtain ⟨n, _, e2⟩ := Option.map_eq_some_iff.mp e; cases e2; rfl)
      | skip)
  · split at e
    · obtain ⟨_, e2⟩ := guardO_inv e
      cases e2
      rfl
    · cases e
  · obtain ⟨n, _, e2⟩ := Option.bind_eq_some_iff.mp e
    cases n <;> cases e2
    rfl
  · obtain ⟨n, _, e2⟩ := Option.bind_eq_some_iff.mp e
    cases n <;> cases e2
    rfl
  · cases x <;> cases e <;> rfl
/-! ### the state behind a making -/
section
variable {c : Cn} {F H F' H' : Hp} {env env' : Env} {σ : L2.St} {fp fp' : Nat → List Addr} {fr fr' : Addr → Prop}
theorem Rel.grow {fpw : List Addr} (R : Rel c F H env σ fp fr) (g : Grow F H F' H' fpw) : Rel c F' H' env σ fp (fun a => a ∈ fpw ∨ fr a) := by
  have hn : ∀ {a}, F a = none → (∃ o, H a = some o) → F' a = none := fun {a} h1 ⟨o, h2⟩ => by
    cases q : F' a with
    | none => rfl
    | some u =>
      rcases g.new a u q with z | z
      · rw [h1] at z
        cases z
      · rw [h2] at z
        cases z
  refine ⟨g.sub, R.len, fun i w e => ?_, R.nd, R.dj, fun i a ha => ?_, fun a ha => ?_⟩
  · obtain ⟨v, h1, h2⟩ := R.slot i w e
    refine ⟨v, h1, h2.fr g.ext fun a ha => ?_⟩
    obtain ⟨_, ⟨o, h3⟩, _⟩ := R.own i a ha
    rw [h3, g.keep a o h3]
  · obtain ⟨h1, ⟨o, h2⟩, h3⟩ := R.own i a ha
    refine ⟨hn h1 ⟨o, h2⟩, ⟨o, g.keep a o h2⟩, fun z => ?_⟩
    rcases z with z | z
    · rw [(g.fresh a z).1] at h2
      cases h2
    · exact h3 z
  · rcases ha with ha | ha
    · obtain ⟨_, h2, h3⟩ := g.fresh a ha
      exact ⟨h2, h3⟩
    · obtain ⟨h1, o, h2⟩ := R.frm a ha
      exact ⟨hn h1 ⟨o, h2⟩, o, g.keep a o h2⟩
theorem Grow.keepAt {fpw : List Addr} (g : Grow F H F' H' fpw) {a : Addr} (h : ∃ o, H a = some o) : H' a = H a := by
  obtain ⟨o, h⟩ := h
  rw [h, g.keep a o h]
theorem Aft.trans {mu mu2 : Nat → Bool} {F2 H2 : Hp} {fp2 : Nat → List Addr} (a : Aft F H fp fr mu F' H' fp') (b : Aft F' H' fp' fr' mu2 F2 H2 fp2) (hfr : ∀ x, fr x → fr' x) (s1 : Same F' H') (s2 : Same F2 H2) : Aft F H fp fr (fun i => mu i || mu2 i) F2 H2 fp2 := by
  have or2 : ∀ i, (mu i || mu2 i) = false → mu i = false ∧ mu2 i = false := fun i h => by
    cases q : mu i <;> cases r : mu2 i <;> simp [q, r] at h ⊢
  refine ⟨a.ext.trans b.ext, fun x hx => (b.kf x (hfr x hx)).trans (a.kf x hx), fun i hi x hx => ?_, fun i hi x hx => ?_⟩
  · obtain ⟨h1, h2⟩ := or2 i hi
    rcases a.kp i h1 x hx with z | ⟨o, z⟩
    · exact (b.ks i h2 x z).trans (a.ks i h1 x hx)
    · rw [← a.ks i h1 x hx, s1 _ _ z, s2 _ _ (b.ext _ _ z)]
  · obtain ⟨h1, h2⟩ := or2 i hi
    rcases a.kp i h1 x hx with z | ⟨o, z⟩
    · exact b.kp i h2 x z
    · exact .inr ⟨o, b.ext _ _ z⟩
theorem Aft.weak {mu mu2 : Nat → Bool} (a : Aft F H fp fr mu F' H' fp') (h : ∀ i, mu2 i = false → mu i = false) (hf : ∀ x, fr' x → fr x) : Aft F H fp fr' mu2 F' H' fp' :=
  ⟨a.ext, fun x hx => a.kf x (hf x hx), fun i hi => a.ks i (h i hi), fun i hi => a.kp i (h i hi)⟩
/-- behind a making -/
theorem Grow.aft {fpw : List Addr} {mu : Nat → Bool} (R : Rel c F H env σ fp fr) (g : Grow F H F' H' fpw) : Aft F H fp fr mu F' H' fp :=
  ⟨g.ext, fun a ha => g.keepAt (R.frm a ha).2, fun i _ a ha => g.keepAt (R.own i a ha).2.1, fun _ _ _ h => .inl h⟩
end
end Nb
end
section
set_option maxRecDepth 100000
namespace Nb
open PySem PySem.Spec PyProof.Rows L2
/-! ### what expressions may write -/
def muE : E → Nat → Bool
  | .pv _, _ => false
  | .var _, _ => false
  | .un _ a, i => muE a i
  | .bi _ a b, i => muE a i || muE b i
  | .ds _ as, i => muE as i
  | .nil, _ => false
  | .cons a r, i => muE a i || muE r i
  | .and_ a b, i => muE a i || muE b i
  | .or_ a b, i => muE a i || muE b i
  | .not_ a, i => muE a i
  | .ife t a b, i => muE t i || (muE a i || muE b i)
  | .cal _ as, i => muE as i
  | .cab _ j as, i => muE as i || j == i
  | .mtv _ a as, i => muE a i || muE as i
  | .mtb _ j as, i => muE as i || j == i
  | .mak _ as, i => muE as i
  | .sup _ as, i => muE as i || 0 == i
  | .lcp _ own _ it t a, i => muE it i || (own.contains i || (muE t i || muE a i))
  | .yes, _ => false
/-! ### readings -/
def KE (c : Cn) (F H : Hp) (σ : L2.St) (fp : Nat → List Addr) (fr : Addr → Prop) (mu : Nat → Bool) (w : W) (env' : Env) (Q : VK) : Prop :=
  ∀ v H' F' fp' fpw, Aft F H fp fr mu F' H' fp' → Rel c F' H' env' σ fp' (fun a => a ∈ fpw ∨ fr a) → fpw.Nodup → (∀ a ∈ fpw, ¬ fr a) → Rep c F' H' w v fpw → Q v H'
def KL (c : Cn) (F H : Hp) (σ : L2.St) (fp : Nat → List Addr) (fr : Addr → Prop) (mu : Nat → Bool) (ws : List W) (env' : Env) (Q : List V → Hp → Prop) : Prop :=
  ∀ vs H' F' fp' fpw, Aft F H fp fr mu F' H' fp' → Rel c F' H' env' σ fp' (fun a => a ∈ fpw ∨ fr a) → fpw.Nodup → (∀ a ∈ fpw, ¬ fr a) → Reps c F' H' ws vs fpw → Q vs H'
def KB (c : Cn) (F H : Hp) (σ : L2.St) (fp : Nat → List Addr) (fr : Addr → Prop) (mu : Nat → Bool) (env' : Env) (Q : Hp → Prop) : Prop :=
  ∀ H' F' fp', Aft F H fp fr mu F' H' fp' → Rel c F' H' env' σ fp' fr → Q H'
section
variable (c : Cn) (T : Tab) (call make : Cal)
def tE (x : E) : TE := fun σ H Q => ∃ F env fp fr w env', Rel c F H env σ fp fr ∧ evE T call make x env = some (w, env') ∧ KE c F H σ fp fr (muE x) w env' Q
def tL (x : E) : TA := fun σ H Q => ∃ F env fp fr ws env', Rel c F H env σ fp fr ∧ evL T call make x env = some (ws, env') ∧ KL c F H σ fp fr (muE x) ws env' Q
def tET (x : E) : TT := fun σ H Q => ∃ F env fp fr b env', Rel c F H env σ fp fr ∧ evE T call make x env = some (.bl b, env') ∧ KB c F H σ fp fr (muE x) env' (Q b)
end
section
variable {c : Cn} {F H F' H' : Hp} {env env' : Env} {σ : L2.St} {fp fp' : Nat → List Addr} {fr fr' : Addr → Prop} {mu : Nat → Bool}
theorem Rel.nil (R : Rel c F H env σ fp fr) : Rel c F H env σ fp (fun a => a ∈ ([] : List Addr) ∨ fr a) := R.less fun a h => h.elim (fun z => nomatch z) id
theorem KE.now {w : W} {Q : VK} {v : V} (k : KE c F H σ fp fr mu w env Q) (R : Rel c F H env σ fp fr) (r : Rep c F H w v []) : Q v H :=
  k v H F fp [] Aft.refl R.nil .nil (fun _ z => nomatch z) r
theorem op_fin {o : O} {xs : List W} {vs : List V} {fpx : List Addr} {w : W} {Q : VK} (R : Rel c F H env σ fp (fun a => a ∈ fpx ∨ fr a)) (nf : ∀ a ∈ fpx, ¬ fr a) (rs : Reps c F H xs vs fpx) (e : opE o xs = some w)
    (k : KE c F H σ fp fr mu w env Q) : rX c o vs H Q := by
  have ex : Same F (ext F H fpx) := ext_same fun a ha => (R.frm a (.inl ha)).1
  have R2 := R.give nf
  have rs2 : Reps c (ext F H fpx) H (frzs xs) vs [] := rs.frz ex fun a ha => ext_in ha
  have af : Aft F H fp fr mu (ext F H fpx) H fp := ⟨ex, fun _ _ => rfl, fun _ _ _ _ => rfl, fun _ _ _ h => .inl h⟩
  unfold opE at e
  split at e
  · rename_i w' ef
    cases e
    refine .inl ⟨ext F H fpx, frzs xs, [], w, R2.same, rs2, ef, fun v fpw r => ?_⟩
    obtain rfl := r.isF (opF_isF (frzs_isF xs) ef)
    exact k v H _ fp [] af R2.nil .nil (fun _ z => nomatch z) r
  · refine .inr ⟨ext F H fpx, frzs xs, w, R2.same, rs2, e, fun v H' F' fpw g r => ?_⟩
    refine k v H' F' fp fpw ⟨af.ext.trans g.ext, fun a ha => g.keepAt (R2.frm a ha).2, fun i _ a ha => g.keepAt (R2.own i a ha).2.1, fun _ _ _ h => .inl h⟩ (R2.grow g) g.nd (fun a ha hf => ?_) r
    obtain ⟨_, o, ho⟩ := R2.frm a hf
    rw [(g.fresh a ha).1] at ho
    cases ho
end
section
variable {p : Pl} {c : Cn} {X : Cx} {T : Tab} {call make : Cal}
theorem e_pv {q : P} {e : Expr} (h : PE X e (tP c q)) : PE X e (tE c T call make (.pv q)) := by
  refine pe_mono h fun σ H Q ⟨F, env, fp, fr, w, env', R, ev, k⟩ => ?_
  unfold evE at ev
  split at ev
  · rename_i w' e1
    obtain ⟨hf, e2⟩ := guardO_inv ev
    cases e2
    refine ⟨F, env, fp, fr, w, R, e1, fun v fpw r => ?_⟩
    obtain rfl := r.isF hf
    exact k.now R r
  · cases ev
theorem e_pvT {q : P} {e : Expr} (h : PT X e (tPT c q)) : PT X e (tET c T call make (.pv q)) := by
  refine pt_mono h fun σ H Q ⟨F, env, fp, fr, b, env', R, ev, k⟩ => ?_
  unfold evE at ev
  split at ev
  · rename_i w' e1
    obtain ⟨hf, e2⟩ := guardO_inv ev
    cases e2
    exact ⟨F, env, fp, fr, b, R, e1, k H F fp Aft.refl R⟩
  · cases ev
theorem e_pvW {q : P} {e : Expr} (h : PW X e (tPT c q)) : PW X e (tET c T call make (.pv q)) := by
  refine ⟨fun wh pins s σ H Q I ⟨F, env, fp, fr, b, env', R, ev, k⟩ => h.run wh pins s σ H Q I ?_⟩
  unfold evE at ev
  split at ev
  · rename_i w' e1
    obtain ⟨hf, e2⟩ := guardO_inv ev
    cases e2
    exact ⟨F, env, fp, fr, b, R, e1, k H F fp Aft.refl R⟩
  · cases ev
theorem e_var {i : Nat} {e : Expr} (h : PE X e (tVar i)) : PE X e (tE c T call make (.var i)) := by
  refine pe_mono h fun σ H Q ⟨F, env, fp, fr, w, env', R, ev, k⟩ => ?_
  unfold evE at ev
  split at ev
  · rename_i w' e1
    obtain ⟨v, hv, r⟩ := R.slot i w' e1
    refine ⟨v, hv, ?_⟩
    split at ev
    · rename_i hf
      cases ev
      have e3 := r.isF hf
      rw [e3] at r
      exact k.now R r
    · cases ev
      have ex : Same F (ext F H (fp i)) := ext_same fun a ha => (R.own i a ha).1
      refine k v H _ (fset fp i []) [] ⟨ex, fun _ _ => rfl, fun _ _ _ _ => rfl, fun j _ a ha => ?_⟩ (R.giveSlot e1).nil .nil (fun _ z => nomatch z) (r.frz ex fun a ha => ext_in ha)
      by_cases q : j = i
      · subst q
        obtain ⟨_, ⟨o, h2⟩, _⟩ := R.own j a ha
        exact .inr ⟨o, by rw [ext_in ha]; exact h2⟩
      · exact .inl (by rw [fset_ne q]; exact ha)
  · cases ev
/-- the two orders of a frame -/
theorem Rel.swap {F H : Hp} {env : Env} {σ : L2.St} {fp : Nat → List Addr} {fr : Addr → Prop} {f g : List Addr} (R : Rel c F H env σ fp (fun a => a ∈ g ∨ (a ∈ f ∨ fr a))) : Rel c F H env σ fp (fun a => a ∈ f ++ g ∨ fr a) := by
  refine R.less fun a h => ?_
  rcases h with h | h
  · rcases List.mem_append.mp h with h | h
    · exact .inr (.inl h)
    · exact .inl h
  · exact .inr (.inr h)
theorem nodup_app {f g : List Addr} (hf : f.Nodup) (hg : g.Nodup) (h : ∀ a ∈ g, a ∉ f) : (f ++ g).Nodup := by
  rw [List.nodup_append]
  exact ⟨hf, hg, fun a ha b hb e => h b hb (e ▸ ha)⟩
theorem e_cons {a r : E} {e : Expr} {es : List Expr} (ha : PE X e (tE c T call make a)) (hr : PA X es (tL c T call make r)) (g : goodH e = true) : PA X (e :: es) (tL c T call make (.cons a r)) := by
  refine pa_mono (pa_cons ha hr (goodH_star g)) fun σ H Q ⟨F, env, fp, fr, ws, env', R, ev, k⟩ => ?_
  unfold evL at ev
  split at ev
  · rename_i w env1 e1
    split at ev
    · rename_i us env2 e2
      cases ev
      refine ⟨F, env, fp, fr, w, env1, R, e1, fun v H1 F1 fp1 f1 A1 R1 n1 d1 r1 => ⟨F1, env1, fp1, _, us, env', R1, e2, fun vs H2 F2 fp2 f2 A2 R2 n2 d2 r2 => ?_⟩⟩
      refine k (v :: vs) H2 F2 fp2 (f1 ++ f2) (A1.trans A2 (fun x hx => .inr hx) R1.same R2.same) R2.swap (nodup_app n1 n2 fun x hx hy => d2 x hx (.inl hy)) (fun x hx => ?_)
        ⟨v, vs, f1, f2, rfl, rfl, r1.fr A2.ext fun x hx => A2.kf x (.inl hx), r2⟩
      rcases List.mem_append.mp hx with hx | hx
      · exact d1 x hx
      · exact fun z => d2 x hx (.inr z)
    · cases ev
  · cases ev
theorem e_nil : PA X [] (tL c T call make .nil) := by
  refine pa_mono pa_nil fun σ H Q ⟨F, env, fp, fr, ws, env', R, ev, k⟩ => ?_
  unfold evL at ev
  cases ev
  exact k [] H F fp [] Aft.refl R.nil .nil (fun _ z => nomatch z) ⟨rfl, rfl⟩
/-- the reading of one part, with the operation behind it -/
theorem run_un {o : O} {a : E} {σ : L2.St} {H : Hp} {Q : VK} {F : Hp} {env : Env} {fp : Nat → List Addr} {fr : Addr → Prop} {w : W} {env' : Env} (R : Rel c F H env σ fp fr) (ev : evE T call make (.un o a) env = some (w, env'))
    (k : KE c F H σ fp fr (muE (.un o a)) w env' Q) : tU c o (tE c T call make a) σ H Q := by
  unfold evE at ev
  split at ev
  · rename_i x env1 e1
    split at ev
    · rename_i w' e2
      cases ev
      refine ⟨F, env, fp, fr, x, env', R, e1, fun v H1 F1 fp1 f1 A1 R1 n1 d1 r1 => ?_⟩
      refine op_fin (mu := fun _ => false) R1 d1 (rep1 r1) e2 fun v2 H2 F2 fp2 f2 A2 R2 n2 d2 r2 => ?_
      exact k v2 H2 F2 fp2 f2 ((A1.trans A2 (fun x hx => hx) R1.same R2.same).weak (fun i h => by simpa [muE] using h) fun _ h => h) R2 n2 d2 r2
    · cases ev
  · cases ev
theorem run_bi {o : O} {a b : E} {σ : L2.St} {H : Hp} {Q : VK} {F : Hp} {env : Env} {fp : Nat → List Addr} {fr : Addr → Prop} {w : W} {env' : Env} (R : Rel c F H env σ fp fr) (ev : evE T call make (.bi o a b) env = some (w, env'))
    (k : KE c F H σ fp fr (muE (.bi o a b)) w env' Q) : tB2 c o (tE c T call make a) (tE c T call make b) σ H Q := by
  unfold evE at ev
  split at ev
  · rename_i x env1 e1
    split at ev
    · rename_i y env2 e2
      split at ev
      · rename_i w' e3
        cases ev
        refine ⟨F, env, fp, fr, x, env1, R, e1, fun v H1 F1 fp1 f1 A1 R1 n1 d1 r1 => ⟨F1, env1, fp1, _, y, env', R1, e2, fun u H2 F2 fp2 f2 A2 R2 n2 d2 r2 => ?_⟩⟩
        have A12 := A1.trans A2 (fun x hx => .inr hx) R1.same R2.same
        refine op_fin (mu := fun _ => false) R2.swap (fun x hx => ?_) (rep2 (r1.fr A2.ext fun x hx => A2.kf x (.inl hx)) r2) e3 fun v3 H3 F3 fp3 f3 A3 R3 n3 d3 r3 => ?_
        · rcases List.mem_append.mp hx with hx | hx
          · exact d1 x hx
          · exact fun z => d2 x hx (.inr z)
        · exact k v3 H3 F3 fp3 f3 ((A12.trans A3 (fun x hx => hx) R2.same R3.same).weak (fun i h => by simpa [muE] using h) fun _ h => h) R3 n3 d3 r3
      · cases ev
    · cases ev
  · cases ev
theorem e_un (x : XOk p c X) {o : O} {a : E} {e e1 : Expr} (hm : mUn p o e = some e1) (ha : PE X e1 (tE c T call make a)) : PE X e (tE c T call make (.un o a)) :=
  pe_mono (un_sound x hm ha) fun σ H Q ⟨F, env, fp, fr, w, env', R, ev, k⟩ => run_un R ev k
theorem e_unT (x : XOk p c X) {o : O} {a : E} {e e1 : Expr} (hm : mUn p o e = some e1) (ha : PE X e1 (tE c T call make a)) : PT X e (tET c T call make (.un o a)) :=
  pt_mono (un_soundT x hm ha) fun σ H Q ⟨F, env, fp, fr, b, env', R, ev, k⟩ => run_un R ev fun v H' F' fp' f A R' n d r => by
    obtain ⟨rfl, rfl⟩ := r
    exact ⟨b, rfl, k H' F' fp' A (R'.less fun a h => .inr h)⟩
theorem e_bi (x : XOk p c X) {o : O} {a b : E} {e e1 e2 : Expr} (hm : mBi p o e = some (e1, e2)) (ha : PE X e1 (tE c T call make a)) (hb : PE X e2 (tE c T call make b)) : PE X e (tE c T call make (.bi o a b)) :=
  pe_mono (bi_sound x hm ha hb) fun σ H Q ⟨F, env, fp, fr, w, env', R, ev, k⟩ => run_bi R ev k
theorem e_biT (x : XOk p c X) {o : O} {a b : E} {e e1 e2 : Expr} (hm : mBi p o e = some (e1, e2)) (ha : PE X e1 (tE c T call make a)) (hb : PE X e2 (tE c T call make b)) : PT X e (tET c T call make (.bi o a b)) :=
  pt_mono (bi_soundT x hm ha hb) fun σ H Q ⟨F, env, fp, fr, b, env', R, ev, k⟩ => run_bi R ev fun v H' F' fp' f A R' n d r => by
    obtain ⟨rfl, rfl⟩ := r
    exact ⟨b, rfl, k H' F' fp' A (R'.less fun a h => .inr h)⟩
end
end Nb
end
section
set_option maxRecDepth 100000
namespace Nb
open PySem PySem.Spec PyProof.Rows L2
section
variable {p : Pl} {c : Cn} {X : Cx} {T : Tab} {call make : Cal}
/-! ### and, or, not, if -/
theorem run_and {a b : E} {env : Env} {w : W} {env' : Env} (ev : evE T call make (.and_ a b) env = some (w, env')) :
    (∃ env1, evE T call make a env = some (.bl true, env1) ∧ evE T call make b env1 = some (w, env')) ∨ (evE T call make a env = some (.bl false, env') ∧ w = .bl false) := by
  unfold evE at ev
  split at ev
  · rename_i env1 e1
    exact .inl ⟨env1, e1, ev⟩
  · rename_i env1 e1
    cases ev
    exact .inr ⟨e1, rfl⟩
  · cases ev
theorem run_or {a b : E} {env : Env} {w : W} {env' : Env} (ev : evE T call make (.or_ a b) env = some (w, env')) :
    (∃ env1, evE T call make a env = some (.bl false, env1) ∧ evE T call make b env1 = some (w, env')) ∨ (evE T call make a env = some (.bl true, env') ∧ w = .bl true) := by
  unfold evE at ev
  split at ev
  · rename_i env1 e1
    cases ev
    exact .inr ⟨e1, rfl⟩
  · rename_i env1 e1
    exact .inl ⟨env1, e1, ev⟩
  · cases ev
theorem KE.after {F H F1 H1 : Hp} {σ : L2.St} {fp fp1 : Nat → List Addr} {fr : Addr → Prop} {mu mu1 mu2 : Nat → Bool} {w : W} {env1 env' : Env} {Q : VK} (k : KE c F H σ fp fr mu w env' Q) (A : Aft F H fp fr mu1 F1 H1 fp1) (R : Rel c F1 H1 env1 σ fp1 fr)
    (h : ∀ i, mu i = false → mu1 i = false ∧ mu2 i = false) : KE c F1 H1 σ fp1 fr mu2 w env' Q := fun v H2 F2 fp2 f2 A2 R2 n2 d2 r2 =>
  k v H2 F2 fp2 f2 ((A.trans A2 (fun _ h => h) R.same R2.same).weak (fun i hi => by rw [(h i hi).1, (h i hi).2] <;> rfl) fun _ h => h) R2 n2 d2 r2
theorem KB.after {F H F1 H1 : Hp} {σ : L2.St} {fp fp1 : Nat → List Addr} {fr : Addr → Prop} {mu mu1 mu2 : Nat → Bool} {env1 env' : Env} {Q : Hp → Prop} (k : KB c F H σ fp fr mu env' Q) (A : Aft F H fp fr mu1 F1 H1 fp1) (R : Rel c F1 H1 env1 σ fp1 fr)
    (h : ∀ i, mu i = false → mu1 i = false ∧ mu2 i = false) : KB c F1 H1 σ fp1 fr mu2 env' Q := fun H2 F2 fp2 A2 R2 =>
  k H2 F2 fp2 ((A.trans A2 (fun _ h => h) R.same R2.same).weak (fun i hi => by rw [(h i hi).1, (h i hi).2] <;> rfl) fun _ h => h) R2
theorem or_f {a b : Bool} (h : (a || b) = false) : a = false ∧ b = false := by
  cases a <;> cases b <;> simp at h ⊢
theorem KE.stop {F H F1 H1 : Hp} {σ : L2.St} {fp fp1 : Nat → List Addr} {fr : Addr → Prop} {mu mu1 : Nat → Bool} {w : W} {v : V} {env' : Env} {Q : VK} (k : KE c F H σ fp fr mu w env' Q) (A : Aft F H fp fr mu1 F1 H1 fp1) (R : Rel c F1 H1 env' σ fp1 fr)
    (h : ∀ i, mu i = false → mu1 i = false) (r : Rep c F1 H1 w v []) : Q v H1 :=
  k v H1 F1 fp1 [] (A.weak h fun _ h => h) R.nil .nil (fun _ z => nomatch z) r
theorem e_and {a b : E} {e e1 e2 : Expr} (hm : mAnd e = some (e1, e2)) (ha : PE X e1 (tE c T call make a)) (hb : PE X e2 (tE c T call make b)) : PE X e (tE c T call make (.and_ a b)) := by
  refine pe_mono (and_pe hm ha hb) fun σ H Q ⟨F, env, fp, fr, w, env', R, ev, k⟩ => ?_
  rcases run_and ev with ⟨env1, ea, eb⟩ | ⟨ea, rfl⟩
  · refine ⟨F, env, fp, fr, _, env1, R, ea, fun v H1 F1 fp1 f1 A1 R1 n1 d1 r1 => ?_⟩
    obtain ⟨rfl, rfl⟩ := r1
    have R1' := R1.less fun a h => .inr h
    exact ⟨true, rfl, iteT ⟨F1, env1, fp1, fr, w, env', R1', eb, k.after A1 R1' fun i h => or_f h⟩⟩
  · refine ⟨F, env, fp, fr, _, env', R, ea, fun v H1 F1 fp1 f1 A1 R1 n1 d1 r1 => ?_⟩
    obtain ⟨rfl, rfl⟩ := r1
    exact ⟨false, rfl, iteF (k.stop A1 (R1.less fun a h => .inr h) (fun i h => (or_f h).1) (rep_bl _ _))⟩
theorem e_or {a b : E} {e e1 e2 : Expr} (hm : mOr e = some (e1, e2)) (ha : PE X e1 (tE c T call make a)) (hb : PE X e2 (tE c T call make b)) : PE X e (tE c T call make (.or_ a b)) := by
  refine pe_mono (or_pe hm ha hb) fun σ H Q ⟨F, env, fp, fr, w, env', R, ev, k⟩ => ?_
  rcases run_or ev with ⟨env1, ea, eb⟩ | ⟨ea, rfl⟩
  · refine ⟨F, env, fp, fr, _, env1, R, ea, fun v H1 F1 fp1 f1 A1 R1 n1 d1 r1 => ?_⟩
    obtain ⟨rfl, rfl⟩ := r1
    have R1' := R1.less fun a h => .inr h
    exact ⟨false, rfl, iteF ⟨F1, env1, fp1, fr, w, env', R1', eb, k.after A1 R1' fun i h => or_f h⟩⟩
  · refine ⟨F, env, fp, fr, _, env', R, ea, fun v H1 F1 fp1 f1 A1 R1 n1 d1 r1 => ?_⟩
    obtain ⟨rfl, rfl⟩ := r1
    exact ⟨true, rfl, iteT (k.stop A1 (R1.less fun a h => .inr h) (fun i h => (or_f h).1) (rep_bl _ _))⟩
theorem e_andW {a b : E} {e e1 e2 : Expr} (hm : mAnd e = some (e1, e2)) (ha : PT X e1 (tET c T call make a)) (hb : PT X e2 (tET c T call make b)) (hw : isBO e2 = true → PW X e2 (tET c T call make b)) : PW X e (tET c T call make (.and_ a b)) := by
  refine ⟨fun wh pins s σ H Q I ⟨F, env, fp, fr, t, env', R, ev, k⟩ => (and_pw hm ha hb hw).run wh pins s σ H Q I ?_⟩
  rcases run_and ev with ⟨env1, ea, eb⟩ | ⟨ea, e3⟩
  · exact ⟨F, env, fp, fr, true, env1, R, ea, fun H1 F1 fp1 A1 R1 => iteT ⟨F1, env1, fp1, fr, t, env', R1, eb, k.after A1 R1 fun i h => or_f h⟩⟩
  · cases e3
    exact ⟨F, env, fp, fr, false, env', R, ea, fun H1 F1 fp1 A1 R1 => iteF (k H1 F1 fp1 (A1.weak (fun i h => (or_f h).1) fun _ h => h) R1)⟩
theorem e_orW {a b : E} {e e1 e2 : Expr} (hm : mOr e = some (e1, e2)) (ha : PT X e1 (tET c T call make a)) (hb : PT X e2 (tET c T call make b)) (hw : isBO e2 = true → PW X e2 (tET c T call make b)) : PW X e (tET c T call make (.or_ a b)) := by
  refine ⟨fun wh pins s σ H Q I ⟨F, env, fp, fr, t, env', R, ev, k⟩ => (or_pw hm ha hb hw).run wh pins s σ H Q I ?_⟩
  rcases run_or ev with ⟨env1, ea, eb⟩ | ⟨ea, e3⟩
  · exact ⟨F, env, fp, fr, false, env1, R, ea, fun H1 F1 fp1 A1 R1 => iteF ⟨F1, env1, fp1, fr, t, env', R1, eb, k.after A1 R1 fun i h => or_f h⟩⟩
  · cases e3
    exact ⟨F, env, fp, fr, true, env', R, ea, fun H1 F1 fp1 A1 R1 => iteT (k H1 F1 fp1 (A1.weak (fun i h => (or_f h).1) fun _ h => h) R1)⟩
theorem run_not {a : E} {env : Env} {w : W} {env' : Env} (ev : evE T call make (.not_ a) env = some (w, env')) : ∃ b, evE T call make a env = some (.bl b, env') ∧ w = .bl !b := by
  unfold evE at ev
  split at ev
  · rename_i b env1 e1
    cases ev
    exact ⟨b, e1, rfl⟩
  · cases ev
theorem e_not {a : E} {e e1 : Expr} (hm : mNot e = some e1) (ha : PE X e1 (tE c T call make a)) : PE X e (tE c T call make (.not_ a)) := by
  refine pe_mono (not_pe hm ha) fun σ H Q ⟨F, env, fp, fr, w, env', R, ev, k⟩ => ?_
  obtain ⟨b, ea, rfl⟩ := run_not ev
  refine ⟨F, env, fp, fr, _, env', R, ea, fun v H1 F1 fp1 f1 A1 R1 n1 d1 r1 => ?_⟩
  obtain ⟨rfl, rfl⟩ := r1
  exact ⟨b, rfl, k.stop A1 (R1.less fun a h => .inr h) (fun i h => h) (rep_bl _ _)⟩
theorem e_notT {a : E} {e e1 : Expr} (hm : mNot e = some e1) (ha : PT X e1 (tET c T call make a)) : PT X e (tET c T call make (.not_ a)) := by
  refine pt_mono (not_pt hm ha) fun σ H Q ⟨F, env, fp, fr, t, env', R, ev, k⟩ => ?_
  obtain ⟨b, ea, e3⟩ := run_not ev
  cases e3
  exact ⟨F, env, fp, fr, b, env', R, ea, k⟩
theorem e_if {t a b : E} {e e0 e1 e2 : Expr} (hm : mIf e = some (e0, e1, e2)) (ht : PT X e0 (tET c T call make t)) (ha : PE X e1 (tE c T call make a)) (hb : PE X e2 (tE c T call make b)) : PE X e (tE c T call make (.ife t a b)) := by
  refine pe_mono (if_pe hm ht ha hb) fun σ H Q ⟨F, env, fp, fr, w, env', R, ev, k⟩ => ?_
  unfold evE at ev
  split at ev
  · rename_i env1 et
    exact ⟨F, env, fp, fr, true, env1, R, et, fun H1 F1 fp1 A1 R1 => iteT ⟨F1, env1, fp1, fr, w, env', R1, ev, k.after A1 R1 fun i h => ⟨(or_f h).1, (or_f (or_f h).2).1⟩⟩⟩
  · rename_i env1 et
    exact ⟨F, env, fp, fr, false, env1, R, et, fun H1 F1 fp1 A1 R1 => iteF ⟨F1, env1, fp1, fr, w, env', R1, ev, k.after A1 R1 fun i h => ⟨(or_f h).1, (or_f (or_f h).2).2⟩⟩⟩
  · cases ev
/-! ### displays -/
def mDs (o : O) : Expr → Option (List Expr)
  | .Tuple es _ _ => match o with
    | .tup => some es
    | _ => none
  | .List es _ => match o with
    | .lst => some es
    | _ => none
  | _ => none
theorem e_ds {o : O} {as : E} {e : Expr} {es : List Expr} (hm : mDs o e = some es) (ha : PA X es (tL c T call make as)) : PE X e (tE c T call make (.ds o as)) := by
  unfold mDs at hm
  split at hm
  · split at hm
    · cases hm
      refine pe_mono (pe_tup ha) fun σ H Q ⟨F, env, fp, fr, w, env', R, ev, k⟩ => ?_
      unfold evE at ev
      split at ev
      · rename_i ws env1 e1
        split at ev
        · rename_i w' e2
          cases ev
          obtain ⟨b, e3⟩ := guardO_inv e2
          cases e3
          have b := of_decide_eq_true b
          refine ⟨F, env, fp, fr, ws, env', R, e1, fun vs H1 F1 fp1 f1 A1 R1 n1 d1 r1 => ⟨by rw [r1.len, sizeLine_eq]; omega, fun q hq => ?_⟩⟩
          have ex : Same F1 (ext F1 H1 f1) := ext_same fun a ha => (R1.frm a (.inl ha)).1
          have R2 := R1.give d1
          refine new_tup (Q := Q) R2.same (r1.frz ex fun a ha => ext_in ha) rfl (fun v H' F' fpw g r => ?_) q hq
          refine k v H' F' fp1 fpw ?_ (R2.grow g) g.nd (fun a ha hf => ?_) r
          · refine (A1.trans (⟨ex.trans g.ext, fun a ha => g.keepAt (R1.frm a ha).2, fun i _ a ha => g.keepAt (R1.own i a ha).2.1, fun _ _ _ h => .inl h⟩ : Aft F1 H1 fp1 (fun a => a ∈ f1 ∨ fr a) (fun _ => false) F' H' fp1) (fun x hx => .inr hx) R1.same g.sub).weak (fun i h => by simpa [muE] using h) fun _ h => h
          · obtain ⟨_, o, ho⟩ := R1.frm a (.inr hf)
            rw [(g.fresh a ha).1] at ho
            cases ho
        · cases ev
      · cases ev
    · cases hm
  · split at hm
    · cases hm
      refine pe_mono (pe_lst ha) fun σ H Q ⟨F, env, fp, fr, w, env', R, ev, k⟩ => ?_
      unfold evE at ev
      split at ev
      · rename_i ws env1 e1
        split at ev
        · rename_i w' e2
          cases ev
          obtain ⟨b, e3⟩ := guardO_inv e2
          cases e3
          have b := of_decide_eq_true b
          refine ⟨F, env, fp, fr, ws, env', R, e1, fun vs H1 F1 fp1 f1 A1 R1 n1 d1 r1 => ⟨by rw [r1.len, sizeLine_eq]; omega, fun q hq => ?_⟩⟩
          have hF := R1.same.free hq
          have nq : ∀ a, (∃ o, H1 a = some o) → a ≠ q := fun a ⟨o, ho⟩ e => by
            rw [e, hq] at ho
            cases ho
          have g : Grow F1 H1 F1 (upd H1 q (.lst vs)) [q] := ⟨Same.refl F1, same_newF R1.same hq, same_new hq, fun _ _ h => .inl h, by simp, fun a ha => by
            obtain rfl : a = q := by simpa using ha
            exact ⟨hq, hF, _, upd_same⟩⟩
          refine k (.ref q) _ F1 fp1 (q :: f1) ?_ ((R1.grow g).less fun a ha => ?_) ?_ (fun a ha hf => ?_) ⟨q, vs, f1, rfl, upd_same, rfl, r1.fr (Same.refl F1) fun a ha => upd_ne (nq a (R1.frm a (.inl ha)).2)⟩
          · exact (A1.trans (g.aft (mu := fun _ => false) R1) (fun x hx => .inr hx) R1.same g.sub).weak (fun i h => by simpa [muE] using h) fun _ h => h
          · rcases ha with ha | ha
            · rcases List.mem_cons.mp ha with rfl | ha
              · exact .inl (by simp)
              · exact .inr (.inl ha)
            · exact .inr (.inr ha)
          · exact List.nodup_cons.mpr ⟨fun z => nq q (R1.frm q (.inl z)).2 rfl, n1⟩
          · rcases List.mem_cons.mp ha with rfl | ha
            · exact nq a (R1.frm a (.inr hf)).2 rfl
            · exact d1 a ha hf
        · cases ev
      · cases ev
    · cases hm
  · cases hm
end
end Nb
end
section
set_option maxRecDepth 100000
namespace Nb
open PySem PySem.Spec PyProof.Rows L2
/-! ### what a def promises -/
def spD (c : Cn) (nb np : Nat) (call : List W → Option (W × List W)) : Sp := fun vs H Q _ => vs.length = np ∧ ∃ (F : Hp) (ws : List W) (fpA : List Addr) (fr : Addr → Prop) (w : W) (ws' : List W),
  Same F H ∧ Reps c F H ws vs fpA ∧ fpA.Nodup ∧ (∀ a ∈ fpA, F a = none ∧ (∃ o, H a = some o) ∧ ¬ fr a) ∧ (∀ a, fr a → F a = none ∧ ∃ o, H a = some o) ∧ call ws = some (w, ws') ∧
  ∀ v H' F' fpw fpB, Same F F' → Same F' H' → (∀ a, fr a → H' a = H a ∧ F' a = none) → Rep c F' H' w v fpw → Reps c F' H' ws' (vs.take nb) fpB → (fpw ++ fpB).Nodup → (∀ a ∈ fpw ++ fpB, F' a = none ∧ (∃ o, H' a = some o) ∧ ¬ fr a) → Q v H'
structure FnAt (c : Cn) (X : Cx) (call : Cal) (f : Nat) (d : Nat) : Prop where
  ex : ∃ (k : Nat) (fd : FuncData) (ps : List Str) (nb : Nat), Room (k + d) X.A ∧ FnOk X.prog X.w X.K X.mg X.base CX0 k (c.fa f) fd ps (spD c nb ps.length (call f)) ∧ PySem.W.keepIn X.K (.ref (c.fa f)) = true ∧ Binds X.K fd ps [] ∧
    ∀ ws r, call f ws = some r → ws.length = ps.length
section
variable {c : Cn} {F H F' H' : Hp} {env env' : Env} {σ : L2.St} {fp fp' : Nat → List Addr} {fr fr' : Addr → Prop}
/-- behind a call: what the caller owns stands -/
theorem Rel.called {fpw : List Addr} (R : Rel c F H env σ fp fr) (e1 : Same F F') (e2 : Same F' H') (hk : ∀ a, ((∃ i, a ∈ fp i) ∨ fr a) → H' a = H a ∧ F' a = none) (hw : ∀ a ∈ fpw, F' a = none ∧ (∃ o, H' a = some o) ∧ ¬ ((∃ i, a ∈ fp i) ∨ fr a)) :
    Rel c F' H' env σ fp (fun a => a ∈ fpw ∨ fr a) := by
  refine ⟨e2, R.len, fun i w e => ?_, R.nd, R.dj, fun i a ha => ?_, fun a ha => ?_⟩
  · obtain ⟨v, h1, h2⟩ := R.slot i w e
    exact ⟨v, h1, h2.fr e1 fun a ha => (hk a (.inl ⟨i, ha⟩)).1⟩
  · obtain ⟨h1, ⟨o, h2⟩, h3⟩ := R.own i a ha
    obtain ⟨k1, k2⟩ := hk a (.inl ⟨i, ha⟩)
    refine ⟨k2, ⟨o, by rw [k1]; exact h2⟩, fun z => ?_⟩
    rcases z with z | z
    · exact (hw a z).2.2 (.inl ⟨i, ha⟩)
    · exact h3 z
  · rcases ha with ha | ha
    · exact ⟨(hw a ha).1, (hw a ha).2.1⟩
    · obtain ⟨h1, o, h2⟩ := R.frm a ha
      obtain ⟨k1, k2⟩ := hk a (.inr ha)
      exact ⟨k2, o, by rw [k1]; exact h2⟩
/-- the same, slot i lent and handed back as w -/
theorem Rel.lent {fpw fpB : List Addr} {i : Nat} {w : W} {v : V} (R : Rel c F H env σ fp fr) (hi : i < env.length) (hv : σ[i]? = some (some v)) (e1 : Same F F') (e2 : Same F' H') (hk : ∀ a, ((∃ j, j ≠ i ∧ a ∈ fp j) ∨ fr a) → H' a = H a ∧ F' a = none)
    (rw' : Rep c F' H' w v fpB) (nd : (fpw ++ fpB).Nodup) (hw : ∀ a ∈ fpw ++ fpB, F' a = none ∧ (∃ o, H' a = some o) ∧ ¬ ((∃ j, j ≠ i ∧ a ∈ fp j) ∨ fr a)) :
    Rel c F' H' (env.set i (some w)) σ (fset fp i fpB) (fun a => a ∈ fpw ∨ fr a) := by
  obtain ⟨_, n2, n3⟩ := List.nodup_append.mp nd
  refine ⟨e2, by rw [List.length_set]; exact R.len, fun j u e => ?_, fun j => ?_, fun j k n a ha hb => ?_, fun j a ha => ?_, fun a ha => ?_⟩
  · by_cases q : j = i
    · subst q
      rw [get_set_self hi] at e
      cases e
      rw [fset_self]
      exact ⟨v, hv, rw'⟩
    · rw [get_set_ne q] at e
      rw [fset_ne q]
      obtain ⟨v, h1, h2⟩ := R.slot j u e
      exact ⟨v, h1, h2.fr e1 fun a ha => (hk a (.inl ⟨j, q, ha⟩)).1⟩
  · by_cases q : j = i
    · rw [q, fset_self]
      exact n2
    · rw [fset_ne q]
      exact R.nd j
  · by_cases q : j = i
    · subst q
      rw [fset_self] at ha
      rw [fset_ne (Ne.symm n)] at hb
      exact (hw a (List.mem_append_right _ ha)).2.2 (.inl ⟨k, Ne.symm n, hb⟩)
    · rw [fset_ne q] at ha
      by_cases q2 : k = i
      · subst q2
        rw [fset_self] at hb
        exact (hw a (List.mem_append_right _ hb)).2.2 (.inl ⟨j, q, ha⟩)
      · rw [fset_ne q2] at hb
        exact R.dj j k n a ha hb
  · by_cases q : j = i
    · subst q
      rw [fset_self] at ha
      obtain ⟨h1, h2, h3⟩ := hw a (List.mem_append_right _ ha)
      refine ⟨h1, h2, fun z => ?_⟩
      rcases z with z | z
      · exact n3 a z a ha rfl
      · exact h3 (.inr z)
    · rw [fset_ne q] at ha
      obtain ⟨h1, ⟨o, h2⟩, h3⟩ := R.own j a ha
      obtain ⟨k1, k2⟩ := hk a (.inl ⟨j, q, ha⟩)
      refine ⟨k2, ⟨o, by rw [k1]; exact h2⟩, fun z => ?_⟩
      rcases z with z | z
      · exact (hw a (List.mem_append_left _ z)).2.2 (.inl ⟨j, q, ha⟩)
      · exact h3 z
  · rcases ha with ha | ha
    · exact ⟨(hw a (List.mem_append_left _ ha)).1, (hw a (List.mem_append_left _ ha)).2.1⟩
    · obtain ⟨h1, o, h2⟩ := R.frm a ha
      obtain ⟨k1, k2⟩ := hk a (.inr ha)
      exact ⟨k2, o, by rw [k1]; exact h2⟩
/-- the promise asked where all arguments are given away -/
theorem ask_all {nb np : Nat} {call : List W → Option (W × List W)} {ws : List W} {vs : List V} {fpw : List Addr} {w : W} {l : List W} {Q : VK} {E : XK} {mu : Nat → Bool} (R : Rel c F H env σ fp (fun a => a ∈ fpw ∨ fr a)) (nf : ∀ a ∈ fpw, ¬ fr a)
    (rs : Reps c F H ws vs fpw) (e : call (frzs ws) = some (w, l)) (hl : (frzs ws).length = np) (k : KE c F H σ fp fr mu w env Q) : spD c nb np call vs H Q E := by
  have ex : Same F (ext F H fpw) := ext_same fun a ha => (R.frm a (.inl ha)).1
  have R2 := R.give nf
  refine ⟨by rw [rs.len, ← hl, frzs_len], ext F H fpw, frzs ws, [], fun a => (∃ i, a ∈ fp i) ∨ fr a, w, l, R2.same, rs.frz ex fun a ha => ext_in ha, .nil, (fun _ z => nomatch z), fun a ha => ?_, e, fun v H' F' f g s1 s2 hk r1 r2 nd hw => ?_⟩
  · rcases ha with ⟨i, ha⟩ | ha
    · exact ⟨(R2.own i a ha).1, (R2.own i a ha).2.1⟩
    · exact R2.frm a ha
  · have hw' : ∀ a ∈ f, F' a = none ∧ (∃ o, H' a = some o) ∧ ¬ ((∃ i, a ∈ fp i) ∨ fr a) := fun a ha => hw a (List.mem_append_left _ ha)
    refine k v H' F' fp f ⟨ex.trans s1, fun a ha => (hk a (.inr ha)).1, fun i _ a ha => (hk a (.inl ⟨i, ha⟩)).1, fun _ _ _ h => .inl h⟩ (R2.called s1 s2 hk hw') (List.nodup_append.mp nd).1 (fun a ha hf => (hw' a ha).2.2 (.inr hf)) r1
/-- .. and where the first one is lent from slot i -/
theorem ask_lent {np nb : Nat} {call : List W → Option (W × List W)} {ws : List W} {vs : List V} {fpw : List Addr} {w w0 w1 : W} {v0 : V} {Q : VK} {E : XK} {mu : Nat → Bool} {i : Nat} (R : Rel c F H env σ fp (fun a => a ∈ fpw ∨ fr a)) (nf : ∀ a ∈ fpw, ¬ fr a)
    (rs : Reps c F H ws vs fpw) (hi : get env i = some w0) (hv : σ[i]? = some (some v0)) (e : call (w0 :: frzs ws) = some (w, [w1])) (hl : (w0 :: frzs ws).length = np) (k : KE c F H σ fp fr mu w (env.set i (some w1)) Q) (hmu : mu i = true) : spD c nb np call (v0 :: vs) H Q E := by
  have ex : Same F (ext F H fpw) := ext_same fun a ha => (R.frm a (.inl ha)).1
  have R2 := R.give nf
  obtain ⟨v0', hv', r0⟩ := R2.slot i w0 hi
  rw [hv] at hv'
  cases hv'
  refine ⟨by rw [← hl]; simp [rs.len, frzs_len], ext F H fpw, w0 :: frzs ws, fp i, fun a => (∃ j, j ≠ i ∧ a ∈ fp j) ∨ fr a, w, [w1], R2.same, ⟨v0, vs, fp i, [], rfl, by simp, r0, rs.frz ex fun a ha => ext_in ha⟩, R2.nd i, fun a ha => ?_, fun a ha => ?_, e, fun v H' F' f g s1 s2 hk r1 r2 nd hw => ?_⟩
  · obtain ⟨h1, h2, h3⟩ := R2.own i a ha
    refine ⟨h1, h2, fun z => ?_⟩
    rcases z with ⟨j, hj, z⟩ | z
    · exact R2.dj j i hj a z ha
    · exact h3 z
  · rcases ha with ⟨j, _, ha⟩ | ha
    · exact ⟨(R2.own j a ha).1, (R2.own j a ha).2.1⟩
    · exact R2.frm a ha
  · have r3 : Rep c F' H' w1 v0 g := by
      obtain ⟨v1, t, f1, f2, e1, e2, q1, q2, q3⟩ := r2
      subst q3
      cases nb with
      | zero => cases e1
      | succ n =>
        cases e1
        rw [e2, List.append_nil]
        exact q1
    refine k v H' F' (fset fp i g) f ⟨ex.trans s1, fun a ha => (hk a (.inr ha)).1, fun j hj a ha => ?_, fun j hj a ha => ?_⟩ (R2.lent (get_lt hi) hv s1 s2 hk r3 nd hw) (List.nodup_append.mp nd).1 (fun a ha hf => (hw a (List.mem_append_left _ ha)).2.2 (.inr hf)) r1
    · have hji : j ≠ i := fun z => by
        rw [z, hmu] at hj
        cases hj
      exact (hk a (.inl ⟨j, hji, ha⟩)).1
    · have hji : j ≠ i := fun z => by
        rw [z, hmu] at hj
        cases hj
      exact .inl (by rw [fset_ne hji]; exact ha)
end
/-! ### calls -/
structure COk (p : Pl) (c : Cn) (X : Cx) (T : Tab) (call make : Cal) : Prop where
  fns : ∀ f ws r, call f ws = some r → FnAt c X call f 0
  mks : ∀ f ws r, make f ws = some r → FnAt c X make f 1
  defs : ∀ q ∈ p.defs, X.mg (c.nm q.1) = some (.ref (c.fa q.2))
  clss : ∀ q ∈ p.clss, X.mg (c.nm q.1) = some (.ref (c.ca q.2))
  meth : ∀ C m f, T.meth C m = some f → Meth c.K (c.ca C) (c.nm m) (c.fa f) ∧ (c.okf C m = false ∧ c.okc C = true)
  init : ∀ C f, T.init C = some f → Mk c.K (c.ca C) (c.fa f) ∧ c.okc C = true
  fld : ∀ C f, T.fld C f = true → c.okf C f = true
  sup : ∀ C f, T.sup C = some f → ClX.CRead c.K (c.ca C) (.type "type") ∧ ClX.CVal c.K (c.ca C) (.type "type") "__init__" (.ref (c.fa f)) (.ref (c.fa f))
def noArg : E → Bool
  | .nil => true
  | _ => false
/-- a call of a def of the text -/
def mCal (p : Pl) (f : Nat) : Expr → Option (List Expr)
  | .Call (.Name x _) es [] _ => guardP (gloB p x && (noDbg x && p.defs.any fun q => decide (p.nm q.1 = x) && decide (q.2 = f))) es
  | _ => none
section
variable {p : Pl} {c : Cn} {X : Cx} {T : Tab} {call make : Cal}
theorem COk.def_ (C : COk p c X T call make) (x : XOk p c X) {y : Str} {f : Nat} (h : (p.defs.any fun q => decide (p.nm q.1 = y) && decide (q.2 = f)) = true) : X.mg y = some (.ref (c.fa f)) := by
  obtain ⟨q, hq, h⟩ := List.any_eq_true.mp h
  obtain ⟨h1, h2⟩ := and2 h
  have h1 := of_decide_eq_true h1
  have h2 := of_decide_eq_true h2
  rw [← h1, ← h2, x.nm]
  exact C.defs q hq
theorem any_goodH {e : Expr} {es : List Expr} {as : E} (h : PA X es (tL c T call make as)) : True := trivial
/-- all arguments are plain ones -/
def goodA : List Expr → Bool
  | [] => true
  | e :: es => goodH e && goodA es
theorem goodA_any {env : PySem.Env} {pos : Pos} : ∀ {es : List Expr}, goodA es = true → (backTo pos (starEach es env)).any (·.1) = false
  | [], _ => rfl
  | e :: es, h => by
    obtain ⟨h1, h2⟩ := and2 h
    rw [goodH_star h1]
    show (false || (backTo pos (starEach es env)).any (·.1)) = false
    rw [goodA_any h2] <;> rfl
theorem evL_nil {env : Env} {as : E} {ws : List W} {env' : Env} (h : noArg as = true) (ev : evL T call make as env = some (ws, env')) : ws = [] ∧ env' = env := by
  cases as <;> first | (cases h; done) | skip
  unfold evL at ev
  cases ev
  exact ⟨rfl, rfl⟩
theorem e_cal (x : XOk p c X) (C : COk p c X T call make) {f : Nat} {as : E} {e : Expr} {es : List Expr} (hm : mCal p f e = some es) (ha : PA X es (tL c T call make as)) (hn : es = [] → noArg as = true) (hg : goodA es = true) : PE X e (tE c T call make (.cal f as)) := by
  refine ⟨fun pins s σ H Q I ⟨F, env, fp, fr, w, env', R, ev, k⟩ => ?_⟩
  unfold evE at ev
  split at ev
  · rename_i ws env1 e1
    split at ev
    · rename_i w' l e2
      cases ev
      obtain ⟨kk, fd, ps, nb, room, fok, kp, bd, hlen⟩ := (C.fns f _ _ e2).ex
      unfold mCal at hm
      split at hm
      · rename_i y q1 es' pos
        obtain ⟨h1, h2⟩ := guardP_inv hm
        subst h2
        obtain ⟨h1, h2⟩ := and2 h1
        obtain ⟨h2, h3⟩ := and2 h2
        have hmg := C.def_ x h3
        cases es' with
        | nil =>
          obtain ⟨rfl, rfl⟩ := evL_nil (hn rfl) e1
          refine (pe_call0 (E := fun _ _ _ => False) fok room (x.glo h1) hmg kp bd .nil pass0 (noDbg_ok h2).1).run pins s σ H Q I ?_

          show spD c nb ps.length (call f) [] H Q (fun _ _ _ => False)
          exact ask_all (mu := muE (.cal f as)) (ws := []) (fpw := []) R.nil (fun _ z => nomatch z) ⟨rfl, rfl⟩ e2 (hlen _ _ e2) k
        | cons e0 es0 =>
          obtain ⟨g1, g2⟩ := and2 hg
          refine (pe_call (E := fun _ _ _ => False) fok room (x.glo h1) hmg kp bd .nil pass0 ha (noDbg_ok h2).1 (goodH_star g1) (goodA_any g2)).run pins s σ H Q I ?_
          refine ⟨F, env, fp, fr, ws, env', R, e1, fun vs H1 F1 fp1 f1 A1 R1 n1 d1 r1 => ?_⟩

          show spD c nb ps.length (call f) (vs ++ []) H1 Q (fun _ _ _ => False)
          rw [List.append_nil]
          exact ask_all (mu := fun _ => false) R1 d1 r1 e2 (hlen _ _ e2) (k.after A1 (R1.less fun a h => .inr h) fun i h => ⟨h, rfl⟩)
      · cases hm
    · cases ev
  · cases ev
end
end Nb
end
section
set_option maxRecDepth 100000
namespace Nb
open PySem PySem.Spec PyProof.Rows L2
/-- a call of a def of the text, its first argument a name -/
def mCab (p : Pl) (f i : Nat) : Expr → Option (List Expr)
  | .Call (.Name x _) (e0 :: es) [] _ => guardP ((gloB p x && (noDbg x && p.defs.any fun q => decide (p.nm q.1 = x) && decide (q.2 = f))) && (mVar p i e0 && goodH e0)) es
  | _ => none
def mMet (p : Pl) (m : Nat) : Expr → Option (Expr × List Expr)
  | .Call (.Attribute o y apos) es [] pos => guardP (decide (p.nm m = y) && (goodH o && (goodA es && (decide (es.length < 30) && (apos.endLine == pos.line))))) (o, es)
  | _ => none
def mMak (p : Pl) (C : Nat) : Expr → Option (List Expr)
  | .Call (.Name x _) es [] _ => guardP (gloB p x && (noDbg x && p.clss.any fun q => decide (p.nm q.1 = x) && decide (q.2 = C))) es
  | _ => none
theorem goodA_all {env : PySem.Env} {pos : Pos} : ∀ {es : List Expr}, goodA es = true → (backTo pos (starEach es env)).all (!·.1) = true
  | [], _ => rfl
  | e :: es, h => by
    obtain ⟨h1, h2⟩ := and2 h
    rw [goodH_star h1]
    show (!false && (backTo pos (starEach es env)).all (!·.1)) = true
    rw [goodA_all h2] <;> rfl
theorem meth_eq {X : Cx} {o : Expr} {m : Str} {es : List Expr} {apos pos : Pos} (g : goodH o = true) (ha : goodA es = true) (hl : (apos.endLine == pos.line) = true) (hn : es.length < 30) : eval ((o.Attribute m apos).Call es [] pos) X.env = (do
  let ov ← eval o X.env
  standAt apos.atName
  let (f, first) ← holding [ov] (getMethod ov m (do return (← importBound o X.env).getD true))
  callWith pos f first (backTo pos (starEach es X.env)) (backToKw pos (keywordEach [] X.env))) := by
  have hf : methodCallForm (es.length + ([] : List Keyword).length) (backTo pos (starEach es X.env)) (backToKw pos (keywordEach [] X.env)) = true := by
    show ((backTo pos (starEach es X.env)).all (!·.1) && true && decide (es.length + 0 + 0 < 30)) = true
    rw [goodA_all ha]
    simpa using hn
  have h1 : eval ((o.Attribute m apos).Call es [] pos) X.env = (do
    let ov ← attributeBase o m X.env (eval o X.env)
    standAt apos.atName
    methodCall o m apos pos X.env ov (es.length + ([] : List Keyword).length) (backTo pos (starEach es X.env)) (backToKw pos (keywordEach [] X.env))) := by
    rw [eval]
  have hp : methodCallPos true o X.env apos pos = pure pos := by
    unfold methodCallPos
    rw [hl]
    rfl
  rw [h1, goodH_attr g]
  congr 1
  funext ov
  congr 1
  funext _
  unfold methodCall
  rw [hf, hp]
  rfl
section
variable {p : Pl} {c : Cn} {X : Cx} {T : Tab} {call make : Cal}
theorem lend_inv {r : Option (W × List W)} {i : Nat} {env env' : Env} {w : W} (h : lend r i env = some (w, env')) : ∃ w1, r = some (w, [w1]) ∧ env' = env.set i (some w1) := by
  unfold lend at h
  split at h
  · cases h
    exact ⟨_, rfl, rfl⟩
  · cases h
theorem KE.after2 {F H F1 H1 : Hp} {σ : L2.St} {fp fp1 : Nat → List Addr} {fr : Addr → Prop} {mu mu1 mu2 : Nat → Bool} {w : W} {env' : Env} {Q : VK} (k : KE c F H σ fp fr mu w env' Q) (A : Aft F H fp fr mu1 F1 H1 fp1) (s : Same F H) (s1 : Same F1 H1)
    (h : ∀ i, mu i = false → mu1 i = false ∧ mu2 i = false) : KE c F1 H1 σ fp1 fr mu2 w env' Q := fun v H2 F2 fp2 f2 A2 R2 n2 d2 r2 =>
  k v H2 F2 fp2 f2 ((A.trans A2 (fun _ h => h) s1 R2.same).weak (fun i hi => by rw [(h i hi).1, (h i hi).2] <;> rfl) fun _ h => h) R2 n2 d2 r2
theorem e_cab (x : XOk p c X) (C : COk p c X T call make) {f i : Nat} {as : E} {e : Expr} {es : List Expr} (hm : mCab p f i e = some es) (ha : PA X es (tL c T call make as)) (hg : goodA es = true) : PE X e (tE c T call make (.cab f i as)) := by
  refine ⟨fun pins s σ H Q I ⟨F, env, fp, fr, w, env', R, ev, k⟩ => ?_⟩
  unfold evE at ev
  split at ev
  rotate_left
  · cases ev
  rename_i wp ep
  obtain ⟨v0, hv0, _⟩ := R.slot i wp ep
  split at ev
  · rename_i ws env1 e1
    split at ev
    · rename_i w0 e3
      obtain ⟨w1, e2, rfl⟩ := lend_inv ev
      obtain ⟨kk, fd, ps, nb, room, fok, kp, bd, hlen⟩ := (C.fns f _ _ e2).ex
      unfold mCab at hm
      split at hm
      · rename_i y q1 e0 es' pos
        obtain ⟨h1, h2⟩ := guardP_inv hm
        subst h2
        obtain ⟨h1, h4⟩ := and2 h1
        obtain ⟨h4, h5⟩ := and2 h4
        obtain ⟨h1, h2⟩ := and2 h1
        obtain ⟨h2, h3⟩ := and2 h2
        have hmg := C.def_ x h3
        have hpa := pa_cons (var_sound x h4) ha (goodH_star h5)
        refine (pe_call (E := fun _ _ _ => False) fok room (x.glo h1) hmg kp bd .nil pass0 hpa (noDbg_ok h2).1 (goodH_star h5) (goodA_any hg)).run pins s σ H Q I ?_
        refine ⟨v0, hv0, F, env, fp, fr, ws, env1, R, e1, fun vs H1 F1 fp1 f1 A1 R1 n1 d1 r1 => ?_⟩
        show spD c nb ps.length (call f) ((v0 :: vs) ++ []) H1 Q (fun _ _ _ => False)
        rw [List.append_nil]
        exact ask_lent (mu := fun j => i == j) R1 d1 r1 e3 hv0 e2 (hlen _ _ e2) (k.after2 A1 R.same R1.same fun j h => or_f h) (beq_self_eq_true i)
      · cases hm
    · cases ev
  · cases ev
theorem lookm {F H : Hp} {o : Bool} {C m : Nat} {fs : List Nat} {ws : List W} {v : V} {fp : List Addr} (s : Same F H) (r : Rep c F H (.ins o C fs ws) v fp) (hm : c.okf C m = false) :
    ∃ a dx fs', v = .ref a ∧ H a = some (.ins (c.ca C) dx fs') ∧ fs'.lookup (c.nm m) = none ∧ c.okc C = true := by
  obtain ⟨a, dx, vs, g, e, h, l, n, _⟩ := ins_ok s r
  refine ⟨a, dx, _, e, h, ?_, n.cl⟩
  rw [List.lookup_eq_none_iff]
  intro q hq
  obtain ⟨f, hf, e2⟩ := List.mem_map.mp (List.of_mem_zip (a := q.1) (b := q.2) hq).1
  have : c.okf C f = true := n.ok f hf
  have ne : c.nm m ≠ q.1 := fun z => by
    have := c.inj _ _ (e2.trans z.symm)
    subst this
    rw [hm] at this
    cases this
  simpa using ne
theorem frz_ins {o : W} {p : Bool} {C : Nat} {fs : List Nat} {us : List W} (h : o.frz = .ins p C fs us) : ∃ q us', o = .ins q C fs us' := by
  cases o <;> first | (cases h; done) | skip
  cases h
  exact ⟨_, _, rfl⟩
theorem e_mtv (x : XOk p c X) (C : COk p c X T call make) {m : Nat} {a as : E} {e eo : Expr} {es : List Expr} (hm : mMet p m e = some (eo, es)) (ho : PE X eo (tE c T call make a)) (ha : PA X es (tL c T call make as)) (hn : es = [] → noArg as = true) : PE X e (tE c T call make (.mtv m a as)) := by
  refine ⟨fun pins s σ H Q I ⟨F, env, fp, fr, w, env', R, ev, k⟩ => ?_⟩
  unfold evE at ev
  split at ev
  rotate_left
  · cases ev
  rename_i wo env1 e1
  split at ev
  rotate_left
  · cases ev
  rename_i ws env2 e2
  split at ev
  rotate_left
  · cases ev
  rename_i b D fs us ef
  split at ev
  rotate_left
  · cases ev
  rename_i f et
  split at ev
  rotate_left
  · cases ev
  rename_i w' l ec
  cases ev
  obtain ⟨ob, us', rfl⟩ := frz_ins ef
  obtain ⟨kk, fd, ps, nb, room, fok, kp, bd, hlen⟩ := (C.fns f _ _ ec).ex
  obtain ⟨hme, hof, hc⟩ := C.meth D m f et
  rw [← x.K] at hme
  unfold mMet at hm
  split at hm
  rotate_left
  · cases hm
  rename_i o y apos es' pos
  obtain ⟨h1, h2⟩ := guardP_inv hm
  cases h2
  obtain ⟨g1, g2⟩ := and2 h1
  obtain ⟨k2, g3⟩ := and2 g2
  obtain ⟨k3, g4⟩ := and2 g3
  obtain ⟨g5, k5⟩ := and2 g4
  have k1 := of_decide_eq_true g1
  have k4 := of_decide_eq_true g5
  clear h1 g1 g2 g3 g4 g5 hm
  rw [x.nm] at k1
  subst k1
  rw [← ef] at ec
  have fin : ∀ {v : V} {H1 F1 : Hp} {fp1 : Nat → List Addr} {f1 : List Addr}, Aft F H fp fr (muE a) F1 H1 fp1 → Rel c F1 H1 env1 σ fp1 (fun x => x ∈ f1 ∨ fr x) → f1.Nodup → (∀ x ∈ f1, ¬ fr x) → Rep c F1 H1 (.ins ob D fs us') v f1 →
      ∃ aa dx fs', v = .ref aa ∧ H1 aa = some (.ins (c.ca D) dx fs') ∧ fs'.lookup (c.nm m) = none ∧ tL c T call make as σ H1 fun vs H2 => spD c nb ps.length (call f) (v :: (vs ++ [])) H2 Q (fun _ _ _ => False) := fun {v H1 F1 fp1 f1} A1 R1 n1 d1 r1 => by
    obtain ⟨aa, dx, fs', q1, q2, q3, _⟩ := lookm R1.same r1 hof
    refine ⟨aa, dx, fs', q1, q2, q3, F1, env1, fp1, _, ws, env', R1, e2, fun vs H2 F2 fp2 f2 A2 R2 n2 d2 r2 => ?_⟩
    show spD c nb ps.length (call f) (v :: (vs ++ [])) H2 Q (fun _ _ _ => False)
    rw [List.append_nil]
    refine ask_all (mu := fun _ => false) (ws := .ins ob D fs us' :: ws) (fpw := f1 ++ f2) R2.swap (fun z hz => ?_) ⟨v, vs, f1, f2, rfl, rfl, r1.fr A2.ext fun z hz => A2.kf z (.inl hz), r2⟩ ec (hlen _ _ ec) ?_
    · rcases List.mem_append.mp hz with hz | hz
      · exact d1 z hz
      · exact fun y => d2 z hz (.inr y)
    · have A12 := A1.trans A2 (fun x hx => .inr hx) R1.same R2.same
      exact k.after2 A12 R.same R2.same fun j h => ⟨h, rfl⟩
  have hcl : Cls X.K (c.ca D) := by
    rw [x.K]
    exact c.cls D hc
  cases es with
  | nil =>
    obtain ⟨rfl, rfl⟩ := evL_nil (hn rfl) e2
    refine (pe_meth0 (E := fun _ _ _ => False) ho hcl hme fok room bd .nil pass0 (meth_eq k2 k3 k5 k4)).run pins s σ H Q I ?_
    refine ⟨F, env, fp, fr, _, _, R, e1, fun v H1 F1 fp1 f1 A1 R1 n1 d1 r1 => ?_⟩
    obtain ⟨aa, dx, fs', q1, q2, q3, _⟩ := lookm R1.same r1 hof
    refine ⟨aa, dx, fs', q1, q2, q3, ?_⟩
    show spD c nb ps.length (call f) (v :: ([] ++ [])) H1 Q (fun _ _ _ => False)
    exact ask_all (mu := muE as) (ws := [.ins ob D fs us']) (fpw := f1) R1 d1 (rep1 r1) ec (hlen _ _ ec) (k.after2 A1 R.same R1.same fun j h => or_f h)
  | cons e0 es0 =>
    obtain ⟨g1, g2⟩ := and2 k3
    refine (pe_meth (E := fun _ _ _ => False) ho hcl hme fok room bd .nil pass0 ha (goodH_star g1) (goodA_any g2) (meth_eq k2 k3 k5 k4)).run pins s σ H Q I ?_
    exact ⟨F, env, fp, fr, _, _, R, e1, fun v H1 F1 fp1 f1 A1 R1 n1 d1 r1 => fin A1 R1 n1 d1 r1⟩
theorem e_mtb (x : XOk p c X) (C : COk p c X T call make) {m i : Nat} {as : E} {e eo : Expr} {es : List Expr} (hm : mMet p m e = some (eo, es)) (ho : mVar p i eo = true) (ha : PA X es (tL c T call make as)) (hn : es = [] → noArg as = true) : PE X e (tE c T call make (.mtb m i as)) := by
  refine ⟨fun pins s σ H Q I ⟨F, env, fp, fr, w, env', R, ev, k⟩ => ?_⟩
  unfold evE at ev
  split at ev
  rotate_left
  · cases ev
  rename_i b D fs us ep
  obtain ⟨v0, hv0, r0⟩ := R.slot i _ ep
  split at ev
  rotate_left
  · cases ev
  rename_i f et
  split at ev
  rotate_left
  · cases ev
  rename_i ws env1 e1
  split at ev
  rotate_left
  · cases ev
  rename_i w0 e3
  obtain ⟨w1, ec, rfl⟩ := lend_inv ev
  obtain ⟨kk, fd, ps, nb, room, fok, kp, bd, hlen⟩ := (C.fns f _ _ ec).ex
  obtain ⟨hme, hof, hc⟩ := C.meth D m f et
  rw [← x.K] at hme
  unfold mMet at hm
  split at hm
  rotate_left
  · cases hm
  rename_i o y apos es' pos
  obtain ⟨h1, h2⟩ := guardP_inv hm
  cases h2
  obtain ⟨g1, g2⟩ := and2 h1
  obtain ⟨k2, g3⟩ := and2 g2
  obtain ⟨k3, g4⟩ := and2 g3
  obtain ⟨g5, k5⟩ := and2 g4
  have k1 := of_decide_eq_true g1
  have k4 := of_decide_eq_true g5
  clear h1 g1 g2 g3 g4 g5 hm
  rw [x.nm] at k1
  subst k1
  have hcl : Cls X.K (c.ca D) := by
    rw [x.K]
    exact c.cls D hc
  obtain ⟨aa, dx, fs', q1, q2, q3, _⟩ := lookm R.same r0 hof
  cases es with
  | nil =>
    obtain ⟨rfl, rfl⟩ := evL_nil (hn rfl) e1
    refine (pe_meth0 (E := fun _ _ _ => False) (var_sound x ho) hcl hme fok room bd .nil pass0 (meth_eq k2 k3 k5 k4)).run pins s σ H Q I ?_
    refine ⟨v0, hv0, aa, dx, fs', q1, q2, q3, ?_⟩
    show spD c nb ps.length (call f) (v0 :: ([] ++ [])) H Q (fun _ _ _ => False)
    exact ask_lent (ws := []) (fpw := []) (mu := muE (.mtb m i as)) R.nil (fun _ z => nomatch z) ⟨rfl, rfl⟩ e3 hv0 ec (hlen _ _ ec) k (by show (muE as i || i == i) = true; simp)
  | cons e0 es0 =>
    obtain ⟨g1, g2⟩ := and2 k3
    refine (pe_meth (E := fun _ _ _ => False) (var_sound x ho) hcl hme fok room bd .nil pass0 ha (goodH_star g1) (goodA_any g2) (meth_eq k2 k3 k5 k4)).run pins s σ H Q I ?_
    refine ⟨v0, hv0, aa, dx, fs', q1, q2, q3, F, env, fp, fr, ws, env1, R, e1, fun vs H1 F1 fp1 f1 A1 R1 n1 d1 r1 => ?_⟩
    show spD c nb ps.length (call f) (v0 :: (vs ++ [])) H1 Q (fun _ _ _ => False)
    rw [List.append_nil]
    exact ask_lent (mu := fun j => i == j) R1 d1 r1 e3 hv0 ec (hlen _ _ ec) (k.after2 A1 R.same R1.same fun j h => or_f h) (beq_self_eq_true i)
/-- the promise of an __init__ asked for a new object -/
theorem ask_new {F H : Hp} {env : Env} {σ : L2.St} {fp : Nat → List Addr} {fr : Addr → Prop} {np nb D : Nat} {call : List W → Option (W × List W)} {ws : List W} {vs : List V} {fpw : List Addr} {w1 : W} {y dx : Addr} {Q : VK} {E : XK} {mu : Nat → Bool} (R : Rel c F H env σ fp (fun a => a ∈ fpw ∨ fr a)) (nf : ∀ a ∈ fpw, ¬ fr a)
    (rs : Reps c F H ws vs fpw) (hx : H y = none) (hd : H dx = none) (hn : dx ≠ y) (hc : c.okc D = true) (e : call (.ins true D [] [] :: frzs ws) = some (.non, [w1])) (hl : (W.ins true D [] [] :: frzs ws).length = np) (k : KE c F H σ fp fr mu w1 env Q) :
    spD c nb np call (.ref y :: vs) (upd (upd H dx (.own y)) y (.ins (c.ca D) dx [])) (fun v H2 => v = .non ∧ Q (.ref y) H2) E := by
  have kp : Same H (upd (upd H dx (.own y)) y (.ins (c.ca D) dx [])) := (same_new hd).trans (same_new (by rw [upd_ne (Ne.symm hn)]; exact hx))
  have g : Grow F H F (upd (upd H dx (.own y)) y (.ins (c.ca D) dx [])) [y] := ⟨Same.refl F, R.same.trans kp, kp, fun _ _ h => .inl h, by simp, fun a ha => by
    obtain rfl : a = y := by simpa using ha
    exact ⟨hx, R.same.free hx, _, upd_same⟩⟩
  have R1 := (R.grow g).less (fr' := fun a => a ∈ fpw ∨ (a ∈ [y] ∨ fr a)) fun a h => by
    rcases h with h | h | h
    · exact .inr (.inl h)
    · exact .inl h
    · exact .inr (.inr h)
  have nf1 : ∀ a ∈ fpw, ¬ (a ∈ [y] ∨ fr a) := fun a ha z => by
    rcases z with z | z
    · obtain rfl : a = y := by simpa using z
      obtain ⟨_, o, ho⟩ := R.frm a (.inl ha)
      rw [hx] at ho
      cases ho
    · exact nf a ha z
  have rs1 : Reps c F (upd (upd H dx (.own y)) y (.ins (c.ca D) dx [])) ws vs fpw := rs.fr (Same.refl F) fun a ha => g.keepAt (R.frm a (.inl ha)).2
  generalize hH : upd (upd H dx (.own y)) y (.ins (c.ca D) dx []) = H1 at *
  have ex : Same F (ext F H1 fpw) := ext_same fun a ha => (R1.frm a (.inl ha)).1
  have R2 := R1.give nf1
  have ny : ∀ i, y ∉ fp i := fun i hi => by
    obtain ⟨_, ⟨o, ho⟩, _⟩ := R.own i y hi
    rw [hx] at ho
    cases ho
  have nfy : ¬ fr y := fun hi => by
    obtain ⟨_, o, ho⟩ := R.frm y (.inr hi)
    rw [hx] at ho
    cases ho
  refine ⟨by rw [← hl]; simp [rs.len, frzs_len], ext F H1 fpw, .ins true D [] [] :: frzs ws, [y], fun a => (∃ i, a ∈ fp i) ∨ fr a, .non, [w1], R2.same, ⟨.ref y, vs, [y], [], rfl, by simp, ⟨y, dx, [], [], rfl, by rw [← hH]; exact upd_same, rfl, rfl, ⟨hc, .nil, (fun _ z => nomatch z)⟩, rfl, rfl⟩, rs1.frz ex fun a ha => ext_in ha⟩, by simp, fun a ha => ?_, fun a ha => ?_, e, fun v H' F' f gg s1 s2 hk r1 r2 nd hw => ?_⟩
  · obtain rfl : a = y := by simpa using ha
    obtain ⟨h1, h2⟩ := R2.frm a (.inl (by simp))
    exact ⟨h1, h2, fun z => z.elim (fun ⟨i, hi⟩ => ny i hi) nfy⟩
  · rcases ha with ⟨i, ha⟩ | ha
    · exact ⟨(R2.own i a ha).1, (R2.own i a ha).2.1⟩
    · exact R2.frm a (.inr ha)
  · obtain ⟨rfl, rfl⟩ := r1
    refine ⟨rfl, ?_⟩
    have r3 : Rep c F' H' w1 (.ref y) gg := by
      obtain ⟨v1, t, f1, f2, e1, e2, q1, q2, q3⟩ := r2
      subst q3
      cases nb with
      | zero => cases e1
      | succ n =>
        cases e1
        rw [e2, List.append_nil]
        exact q1
    have hw' : ∀ a ∈ gg, F' a = none ∧ (∃ o, H' a = some o) ∧ ¬ ((∃ i, a ∈ fp i) ∨ fr a) := fun a ha => hw a (List.mem_append_right _ ha)
    refine k (.ref y) H' F' fp gg ⟨ex.trans s1, fun a ha => ?_, fun i _ a ha => ?_, fun _ _ _ h => .inl h⟩ ((R2.less fun a h => .inr h).called s1 s2 hk hw') (List.nodup_append.mp nd).2.1 (fun a ha hf => (hw' a ha).2.2 (.inr hf)) r3
    · rw [(hk a (.inr ha)).1]
      exact g.keepAt (R.frm a (.inr ha)).2
    · rw [(hk a (.inl ⟨i, ha⟩)).1]
      exact g.keepAt (R.own i a ha).2.1
theorem e_mak (x : XOk p c X) (C : COk p c X T call make) {D : Nat} {as : E} {e : Expr} {es : List Expr} (hm : mMak p D e = some es) (ha : PA X es (tL c T call make as)) (hn : es = [] → noArg as = true) (hg : goodA es = true) : PE X e (tE c T call make (.mak D as)) := by
  refine ⟨fun pins s σ H Q I ⟨F, env, fp, fr, w, env', R, ev, k⟩ => ?_⟩
  unfold evE at ev
  split at ev
  rotate_left
  · cases ev
  rename_i ws env1 e1
  split at ev
  rotate_left
  · cases ev
  rename_i f et
  split at ev
  rotate_left
  · cases ev
  rename_i w1 ec
  cases ev
  obtain ⟨kk, fd, ps, nb, room, fok, kp, bd, hlen⟩ := (C.mks f _ _ ec).ex
  obtain ⟨hmk, hc⟩ := C.init D f et
  rw [← x.K] at hmk
  unfold mMak at hm
  split at hm
  rotate_left
  · cases hm
  rename_i y q1 es' pos
  obtain ⟨h1, h2⟩ := guardP_inv hm
  subst h2
  obtain ⟨h1, h2⟩ := and2 h1
  obtain ⟨h2, h3⟩ := and2 h2
  have hmg : X.mg y = some (.ref (c.ca D)) := by
    obtain ⟨q, hq, h⟩ := List.any_eq_true.mp h3
    obtain ⟨g1, g2⟩ := and2 h
    have g1 := of_decide_eq_true g1
    have g2 := of_decide_eq_true g2
    rw [← g1, ← g2, x.nm]
    exact C.clss q hq
  cases es' with
  | nil =>
    obtain ⟨rfl, rfl⟩ := evL_nil (hn rfl) e1
    refine (pe_make0 (E := fun _ _ _ => False) hmk fok room (x.glo h1) hmg bd .nil pass0 (noDbg_ok h2).1).run pins s σ H Q I ?_
    intro y' dx hy hd hn'
    exact ask_new (mu := muE (.mak D as)) (ws := []) (vs := []) (fpw := []) R.nil (fun _ z => nomatch z) ⟨rfl, rfl⟩ hy hd hn' hc ec (hlen _ _ ec) k
  | cons e0 es0 =>
    obtain ⟨g1, g2⟩ := and2 hg
    refine (pe_make (E := fun _ _ _ => False) hmk fok room (x.glo h1) hmg bd .nil pass0 ha (noDbg_ok h2).1 (goodH_star g1) (goodA_any g2)).run pins s σ H Q I ?_
    refine ⟨F, env, fp, fr, ws, _, R, e1, fun vs H1 F1 fp1 f1 A1 R1 n1 d1 r1 => ?_⟩
    intro y' dx hy hd hn'
    rw [List.append_nil]
    exact ask_new (mu := fun _ => false) R1 d1 r1 hy hd hn' hc ec (hlen _ _ ec) (k.after2 A1 R.same R1.same fun i h => ⟨h, rfl⟩)
/-- a call of a class's own def by the class -/
theorem pe_cfn {CX : CXT} {k : Nat} {D f : Addr} {mc : Value} {fd : FuncData} {ps : List Str} {sp : Sp} {dvs : List V} {ds : List Value} {E : XK} {m : Str} {pos apos : Pos} {o e : Expr} {es : List Expr} {ta : TE} {t : TA} {pl : Sem Bool} (he : PE X o ta) (r : ClX.CRead X.K D mc) (kv : ClX.CVal X.K D mc m (.ref f) (.ref f))
    (kp : PySem.W.keepIn X.K (.ref f) = true) (F : FnOk X.prog X.w X.K X.mg X.base CX k f fd ps sp) (hr : Room k X.A) (hb : Binds X.K fd ps ds) (hd : Vals dvs ds) (hx : Passes CX X E) (ha : PA X (e :: es) t)
    (hst : starEach (e :: es) X.env = (false, eval e X.env) :: starEach es X.env) (hpl : (backTo pos (starEach es X.env)).any (·.1) = false)
    (ht : eval (.Call (.Attribute o m apos) (e :: es) [] pos) X.env = (do
      let ov ← eval o X.env
      standAt apos.atName
      let (f, first) ← holding [ov] (getMethod ov m pl)
      callWith pos f first (backTo pos (starEach (e :: es) X.env)) (backToKw pos (keywordEach [] X.env)))) :
    PE X (.Call (.Attribute o m apos) (e :: es) [] pos) (fun σ H Q => ta σ H fun x H1 => x = .ref D ∧ t σ H1 fun vs H2 => sp (vs ++ dvs) H2 Q E) := by
  refine ⟨fun pins s σ H Q I h => ?_⟩
  refine PySem.W.methodCall_KW (pl := pl) (thn (he.run pins s σ H _ I h) fun u s1 ⟨x, H1, I1, rx, ex, q⟩ => ?_) ht
  subst ex
  obtain rfl : u = Value.ref D := rx
  refine PySem.W.method_cls I1.kIn r.ga (ClX.getcval_ok I1 r kv fun s2 I2 => ?_)
  refine PySem.W.callWith_K (first := []) (h₀ := X.base) I2.ok.mod.kin kp (thn (ha.run pos pins s2 σ H1 _ I2 q) fun us s3 ⟨vs, H2, I3, r3, q2⟩ => ⟨I3.kIn, ?_⟩) hst hpl
  exact run_fn (us := us) (vs := vs) F hr hb hd hx I3 r3 q2
def mSup (p : Pl) (C : Nat) : Expr → Option (List Expr)
  | .Call (.Attribute (.Name x _) y apos) (e0 :: es) [] pos => guardP ((gloB p x && (noDbg x && p.clss.any fun q => decide (p.nm q.1 = x) && decide (q.2 = C))) && ((mVar p 0 e0 && goodH e0) && ((y == ("__init__" : Str)) && (goodA es && (decide (es.length < 29) && (apos.endLine == pos.line)))))) es
  | _ => none
theorem e_sup (x : XOk p c X) (C : COk p c X T call make) {D : Nat} {as : E} {e : Expr} {es : List Expr} (hm : mSup p D e = some es) (ha : PA X es (tL c T call make as)) : PE X e (tE c T call make (.sup D as)) := by
  refine ⟨fun pins s σ H Q I ⟨F, env, fp, fr, w, env', R, ev, k⟩ => ?_⟩
  unfold evE at ev
  split at ev
  rotate_left
  · cases ev
  rename_i wp ep
  obtain ⟨v0, hv0, _⟩ := R.slot 0 wp ep
  split at ev
  rotate_left
  · cases ev
  rename_i ws env1 e1
  split at ev
  rotate_left
  · cases ev
  rename_i w0 e3
  split at ev
  rotate_left
  · cases ev
  rename_i f et
  obtain ⟨w1, e2, rfl⟩ := lend_inv ev
  obtain ⟨kk, fd, ps, nb, room, fok, kp, bd, hlen⟩ := (C.fns f _ _ e2).ex
  obtain ⟨hr, hv⟩ := C.sup D f et
  rw [← x.K] at hr hv
  unfold mSup at hm
  split at hm
  rotate_left
  · cases hm
  rename_i y q1 mth apos e0 es' pos
  obtain ⟨j1, j2⟩ := guardP_inv hm
  subst j2
  obtain ⟨j3, j4⟩ := and2 j1
  obtain ⟨h1, j5⟩ := and2 j3
  obtain ⟨h2, h3⟩ := and2 j5
  obtain ⟨j6, j7⟩ := and2 j4
  obtain ⟨h4, h5⟩ := and2 j6
  obtain ⟨h6, j8⟩ := and2 j7
  obtain ⟨h7, j9⟩ := and2 j8
  obtain ⟨j10, h9⟩ := and2 j9
  have h8 := of_decide_eq_true j10
  clear hm j1 j3 j4 j5 j6 j7 j8 j9 j10
  obtain rfl : mth = "__init__" := by simpa using h6
  have hmg : X.mg y = some (.ref (c.ca D)) := by
    obtain ⟨q, hq, h⟩ := List.any_eq_true.mp h3
    obtain ⟨g1, g2⟩ := and2 h
    have g1 := of_decide_eq_true g1
    have g2 := of_decide_eq_true g2
    rw [← g1, ← g2, x.nm]
    exact C.clss q hq
  have hpa := pa_cons (var_sound x h4) ha (goodH_star h5)
  have hgo : goodH (.Name y q1) = true := rfl
  have hga : goodA (e0 :: es') = true := by
    show (goodH e0 && goodA es') = true
    rw [h5, h7] <;> rfl
  refine (pe_cfn (E := fun _ _ _ => False) (pe_glob (v := .ref (c.ca D)) (x.glo h1) hmg rfl (noDbg_ok h2).1) hr hv kp fok room bd .nil pass0 hpa (goodH_star h5) (goodA_any h7) (meth_eq hgo hga h9 (by simp; omega))).run pins s σ H Q I ?_
  refine ⟨rfl, v0, hv0, F, env, fp, fr, ws, env1, R, e1, fun vs H1 F1 fp1 f1 A1 R1 n1 d1 r1 => ?_⟩
  show spD c nb ps.length (call f) ((v0 :: vs) ++ []) H1 Q (fun _ _ _ => False)
  rw [List.append_nil]
  exact ask_lent (mu := fun j => 0 == j) R1 d1 r1 e3 hv0 e2 (hlen _ _ e2) (k.after2 A1 R.same R1.same fun j h => or_f h) (beq_self_eq_true 0)
end
end Nb
end
section
set_option maxRecDepth 100000
namespace Nb
open PySem PySem.Spec PyProof.Rows L2
/-! ### targets -/
def locB (p : Pl) (x : Str) : Bool := match p.sc.names.lookup x with
  | some .local => true
  | some .cell => p.fn x
  | _ => false
def nostar : Expr → Bool
  | .Starred _ _ => false
  | _ => true
mutual
def cG (p : Pl) : G → Expr → Bool
  | .var i, .Name x _ => decide (p.N[i]? = some x) && locB p x
  | .tup gs, .Tuple es _ _ => cGs p gs es
  | _, _ => false
def cGs (p : Pl) : G → List Expr → Bool
  | .nil, [] => true
  | .cons g r, e :: es => nostar e && (cG p g e && cGs p r es)
  | _, _ => false
end
/-- the slots a target writes -/
def inG : G → Nat → Bool
  | .var i, j => i == j
  | .tup g, j => inG g j
  | .nil, _ => false
  | .cons g r, j => inG g j || inG r j
/-- how many -/
def lenG : G → Nat
  | .cons _ r => lenG r + 1
  | _ => 0
structure Keep (g : G) (σ σ' : L2.St) (env env' : Env) (fp fp' : Nat → List Addr) : Prop where
  len : σ'.length = σ.length
  sl : ∀ i, inG g i = false → σ'[i]? = σ[i]?
  en : ∀ i, inG g i = false → env'[i]? = env[i]?
  fp : ∀ i, inG g i = false → fp' i = fp i
def tG (c : Cn) (n : Nat) (g : G) : TG := fun v σ H Q => ∃ F env fp fr w f env', Rel c F H env σ fp (fun a => a ∈ f ∨ fr a) ∧ f.Nodup ∧ (∀ a ∈ f, ¬ fr a) ∧ Rep c F H w v f ∧ asg n g [w] env = some env' ∧
  ∀ σ' fp', Rel c F H env' σ' fp' fr → Keep g σ σ' env env' fp fp' → Q σ' H
def tGs (c : Cn) (n : Nat) (g : G) : TGs := fun vs σ H Q => ∃ F env fp fr ws env', Rel c F H env σ fp fr ∧ Reps c F H ws vs [] ∧ asg n g ws env = some env' ∧
  ∀ σ' fp', Rel c F H env' σ' fp' fr → Keep g σ σ' env env' fp fp' → Q σ' H
section
variable {c : Cn} {F H : Hp} {env : Env} {σ : L2.St} {fp : Nat → List Addr} {fr : Addr → Prop}
theorem Rel.put {f : List Addr} {i : Nat} {w : W} {v : V} (R : Rel c F H env σ fp (fun a => a ∈ f ∨ fr a)) (nd : f.Nodup) (nf : ∀ a ∈ f, ¬ fr a) (r : Rep c F H w v f) (hi : i < env.length) :
    Rel c F H (env.set i (some w)) (σ.set i (some v)) (fset fp i f) fr := by
  refine ⟨R.same, by rw [List.length_set, List.length_set, R.len], fun j u e => ?_, fun j => ?_, fun j k n a ha hb => ?_, fun j a ha => ?_, fun a ha => R.frm a (.inr ha)⟩
  · by_cases q : j = i
    · subst q
      rw [get_set_self hi] at e
      cases e
      rw [fset_self]
      exact ⟨v, List.getElem?_set_self (by rw [← R.len]; exact hi), r⟩
    · rw [get_set_ne q] at e
      rw [fset_ne q, List.getElem?_set_ne (Ne.symm q)]
      exact R.slot j u e
  · by_cases q : j = i
    · rw [q, fset_self]
      exact nd
    · rw [fset_ne q]
      exact R.nd j
  · by_cases q : j = i
    · subst q
      rw [fset_self] at ha
      rw [fset_ne (Ne.symm n)] at hb
      exact (R.own k a hb).2.2 (.inl ha)
    · rw [fset_ne q] at ha
      by_cases q2 : k = i
      · subst q2
        rw [fset_self] at hb
        exact (R.own j a ha).2.2 (.inl hb)
      · rw [fset_ne q2] at hb
        exact R.dj j k n a ha hb
  · by_cases q : j = i
    · rw [q, fset_self] at ha
      exact ⟨(R.frm a (.inl ha)).1, (R.frm a (.inl ha)).2, nf a ha⟩
    · rw [fset_ne q] at ha
      obtain ⟨h1, h2, h3⟩ := R.own j a ha
      exact ⟨h1, h2, fun z => h3 (.inr z)⟩
end
section
variable {X : Cx}
theorem pg_mono {e : Expr} {t t' : TG} (h : PG X e t) (k : ∀ v σ H Q, t' v σ H Q → t v σ H Q) : PG X e t' := ⟨fun pins s σ H v u Q I r q => h.run pins s σ H v u Q I r (k v σ H Q q)⟩
theorem pgs_mono {e : List Expr} {t t' : TGs} (h : PGs X e t) (k : ∀ v σ H Q, t' v σ H Q → t v σ H Q) : PGs X e t' := ⟨fun pins s σ H v u Q I r q => h.run pins s σ H v u Q I r (k v σ H Q q)⟩
theorem nostar_ok {e : Expr} {es : List Expr} {env : PySem.Env} (h : nostar e = true) : assignEach (e :: es) env = (false, fun v => assign e env v) :: assignEach es env := by
  cases e <;> first | rfl | (cases h; done)
theorem cGs_len {p : Pl} {env : PySem.Env} : ∀ {g : G} {es : List Expr}, cGs p g es = true → (assignEach es env).length = lenG g ∧ (assignEach es env).findIdx? (·.1) = none
  | .nil, [], _ => ⟨rfl, rfl⟩
  | .cons g r, e :: es, h => by
    unfold cGs at h
    obtain ⟨h1, h2⟩ := and2 h
    obtain ⟨h2, h3⟩ := and2 h2
    obtain ⟨i1, i2⟩ := cGs_len (env := env) h3
    rw [nostar_ok h1]
    refine ⟨by simp [lenG, i1], ?_⟩
    rw [List.findIdx?_cons]
    simp only [Bool.false_eq_true, if_false, i2, Option.map_none]
  | .nil, _ :: _, h => by
    unfold cGs at h
    cases h
  | .cons _ _, [], h => by
    unfold cGs at h
    cases h
  | .var _, _, h => by
    unfold cGs at h
    cases h
  | .tup _, _, h => by
    unfold cGs at h
    cases h
theorem asg_len {n : Nat} : ∀ {g : G} {ws : List W} {env env' : Env}, (∃ p es, cGs p g es = true) → asg n g ws env = some env' → ws.length = lenG g
  | .nil, [], _, _, _, _ => rfl
  | .nil, _ :: _, _, _, _, h => by
    unfold asg at h
    cases h
  | .cons g r, [], _, _, _, h => by
    unfold asg at h
    cases h
  | .cons g r, w :: ws, _, _, ⟨p, es, k⟩, h => by
    cases es with
    | nil =>
      unfold cGs at k
      cases k
    | cons e es =>
      unfold cGs at k
      obtain ⟨_, k2⟩ := and2 k
      obtain ⟨_, k3⟩ := and2 k2
      unfold asg at h
      split at h
      · simp [lenG, asg_len ⟨p, es, k3⟩ h]
      · cases h
  | .var _, _, _, _, ⟨p, es, k⟩, _ => by
    unfold cGs at k
    cases k
  | .tup _, _, _, _, ⟨p, es, k⟩, _ => by
    unfold cGs at k
    cases k
end
section
variable {p : Pl} {c : Cn} {X : Cx}
theorem G_sound (x : XOk p c X) (n : Nat) : ∀ g : G, (∀ e, cG p g e = true → PG X e (tG c n g)) ∧ (∀ es, cGs p g es = true → PGs X es (tGs c n g)) := by
  intro g
  induction g with
  | var i =>
    refine ⟨fun e h => ?_, fun es h => by unfold cGs at h; cases h⟩
    cases e <;> first | (unfold cG at h; cases h; done) | skip
    rename_i y pos
    unfold cG at h
    obtain ⟨h1, h2⟩ := and2 h
    have h1 := of_decide_eq_true h1
    have hl : L2.Loc X.env.scope y ∧ (X.fn y = true ∨ X.env.scope.names.lookup y = some .local) := by
      unfold locB at h2
      unfold L2.Loc
      rw [← x.sc] at h2
      split at h2
      · rename_i e
        exact ⟨.inl e, .inr e⟩
      · rename_i e
        exact ⟨.inr e, .inl (x.fn _ h2)⟩
      · cases h2
    refine pg_mono (pg_name (by rw [x.N]; exact x.nd) (by rw [x.N]; exact h1) hl.1 hl.2) fun v σ H Q ⟨F, env, fp, fr, w, f, env', R, nd, nf, r, ev, k⟩ => ?_
    unfold asg at ev
    obtain ⟨g1, g2⟩ := guardO_inv ev
    cases g2
    obtain ⟨_, g1⟩ := and2 g1
    have g1 := of_decide_eq_true g1
    refine k _ (fset fp i f) (R.put nd nf r g1) ⟨by rw [List.length_set], fun j h => ?_, fun j h => ?_, fun j h => ?_⟩
    all_goals
      have hj : j ≠ i := fun z => by
        subst z
        simp [inG] at h
    · exact List.getElem?_set_ne (Ne.symm hj)
    · exact List.getElem?_set_ne (Ne.symm hj)
    · exact fset_ne hj
  | tup gs ih =>
    refine ⟨fun e h => ?_, fun es h => by unfold cGs at h; cases h⟩
    cases e <;> first | (unfold cG at h; cases h; done) | skip
    rename_i es k pos
    unfold cG at h
    obtain ⟨hl, hn⟩ := cGs_len (env := X.env) h
    refine pg_mono (pg_tup (n := lenG gs) x.calm (ih.2 es h) hl hn) fun v σ H Q ⟨F, env, fp, fr, w, f, env', R, nd, nf, r, ev, k⟩ => ?_
    have hw : ∃ ws, w = .tup ws ∧ asg n gs ws env = some env' := by
      cases w <;> first | (unfold asg at ev; cases ev; done) | skip
      unfold asg at ev
      exact ⟨_, rfl, ev⟩
    obtain ⟨ws, rfl, ev⟩ := hw
    obtain ⟨rfl, a, vs, rfl, hF, rs⟩ := r
    have hlen := asg_len ⟨p, es, h⟩ ev
    exact ⟨a, vs, rfl, .inl (.inl (R.same _ _ hF)), by rw [rs.len, hlen], F, env, fp, fr, ws, env', R.less fun a h => .inr h, rs, ev, fun σ' fp' R' kp => k σ' fp' R' ⟨kp.len, kp.sl, kp.en, kp.fp⟩⟩
  | nil =>
    refine ⟨fun e h => (by unfold cG at h; cases h), fun es h => ?_⟩
    cases es <;> first | (unfold cGs at h; cases h; done) | skip
    refine pgs_mono pgs_nil fun v σ H Q ⟨F, env, fp, fr, ws, env', R, r, ev, k⟩ => ?_
    cases ws <;> first | (unfold asg at ev; cases ev; done) | skip
    unfold asg at ev
    cases ev
    exact ⟨r.1, k σ fp R ⟨rfl, fun _ _ => rfl, fun _ _ => rfl, fun _ _ => rfl⟩⟩
  | cons g r ihg ihr =>
    refine ⟨fun e h => (by unfold cG at h; cases h), fun es h => ?_⟩
    cases es <;> first | (unfold cGs at h; cases h; done) | skip
    rename_i e es
    unfold cGs at h
    obtain ⟨h1, h2⟩ := and2 h
    obtain ⟨h2, h3⟩ := and2 h2
    refine pgs_mono (pgs_cons (ihg.1 e h2) (ihr.2 es h3) (by rw [nostar_ok h1] <;> rfl)) fun v σ H Q ⟨F, env, fp, fr, ws, env', R, rr, ev, k⟩ => ?_
    cases ws <;> first | (unfold asg at ev; cases ev; done) | skip
    rename_i w ws
    unfold asg at ev
    split at ev
    · rename_i env1 e1
      obtain ⟨v0, vs, f1, f2, rfl, ef, r1, r2⟩ := rr
      obtain ⟨rfl, rfl⟩ := List.append_eq_nil_iff.mp ef.symm
      refine ⟨v0, vs, rfl, F, env, fp, fr, w, [], env1, R.nil, .nil, (fun _ z => nomatch z), r1, e1, fun σ1 fp1 R1 k1 => ⟨F, env1, fp1, fr, ws, env', R1, r2, ev, fun σ2 fp2 R2 k2 => k σ2 fp2 R2 ⟨k2.len.trans k1.len, fun j h => ?_, fun j h => ?_, fun j h => ?_⟩⟩⟩
      · exact (k2.sl j (or_f h).2).trans (k1.sl j (or_f h).1)
      · exact (k2.en j (or_f h).2).trans (k1.en j (or_f h).1)
      · exact (k2.fp j (or_f h).2).trans (k1.fp j (or_f h).1)
    · cases ev
end
end Nb
end
section
set_option maxRecDepth 100000
namespace Nb
open PySem PySem.Spec PyProof.Rows L2
/-! ### walks -/
def Walks (c : Cn) (J : It) (F : Hp) (xs : List W) : Prop := ∀ F' H, Same F F' → Same F' H → ∀ i,
  (xs.length ≤ i → J.stop i H) ∧ (∀ w, xs[i]? = some w → J.go i H ∧ ∀ v H', J.yld i H v H' → ∃ F2, Grow F' H F2 H' [] ∧ Rep c F2 H' w v [])
def tI (c : Cn) (T : Tab) (call make : Cal) (k : K) (it : E) : TI := fun σ H R => ∃ F env fp fr ws env' xs, Rel c F H env σ fp fr ∧ evL T call make it env = some (ws, env') ∧ items k (frzs ws) = some xs ∧
  ∀ J F' H' fp', Aft F H fp fr (muE it) F' H' fp' → Rel c F' H' env' σ fp' fr → Walks c J F' xs → R J H'
def mIt (p : Pl) (tg : Expr) : K → Expr → Option (List Expr)
  | .seq, e => match e with
    | .Set _ _ _ => none
    | _ => guardP (goodH e) [e]
  | .rng1, .Call (.Name x _) [a] [] _ => guardP (goodH a && bltB p x "range") [a]
  | .rng2, .Call (.Name x _) [a, b] [] _ => guardP (goodH a && (goodH b && bltB p x "range")) [a, b]
  | .enum, .Call (.Name x _) [a] [] _ => match tg with
    | .Tuple _ _ _ => guardP (goodH a && bltB p x "enumerate") [a]
    | _ => none
  | .rev, .Call (.Name x _) [a] [] _ => guardP (goodH a && bltB p x "reversed") [a]
  | _, _ => none
theorem Grow.nul {F H : Hp} (s : Same F H) : Grow F H F H [] := ⟨Same.refl F, s, Same.refl H, fun _ _ h => .inl h, .nil, fun _ z => nomatch z⟩
section
variable {c : Cn} {F H : Hp}
theorem reps_get0 {xs : List W} {vs : List V} {i : Nat} {x : W} (r : Reps c F H xs vs []) (h : xs[i]? = some x) : ∃ v, vs[i]? = some v ∧ Rep c F H x v [] := by
  obtain ⟨v, f, h1, h2, h3⟩ := reps_get r h
  cases f with
  | nil => exact ⟨v, h1, h2⟩
  | cons a f => exact nomatch h3 a List.mem_cons_self
theorem reps_at {xs : List W} {vs : List V} {F' H' : Hp} (r : Reps c F H xs vs []) (s : Same F F') : Reps c F' H' xs vs [] := r.fr s (fun _ z => nomatch z)
theorem walk_lst {a : Addr} {ws : List W} {vs : List V} (h : ∀ F' H', Same F F' → Same F' H' → SqL c.K H' a vs) (r : Reps c F H ws vs []) : Walks c (Itl c.K a) F ws := fun F' H' s s' i => by
  refine ⟨fun l => ⟨vs, h F' H' s s', by rw [r.len]; exact l⟩, fun w e => ?_⟩
  obtain ⟨v, h1, _⟩ := reps_get0 r e
  refine ⟨⟨vs, v, h F' H' s s', h1⟩, fun u H2 ⟨e2, k⟩ => ?_⟩
  subst e2
  have := k vs (h F' _ s s')
  rw [h1] at this
  cases this
  obtain ⟨v', h3, h4⟩ := reps_get0 (reps_at (F' := F') (H' := H2) r s) e
  rw [h1] at h3
  cases h3
  exact ⟨F', Grow.nul s', h4⟩
theorem walk_tup {a : Addr} {ws : List W} {vs : List V} (h : ∀ F' H', Same F F' → Same F' H' → SqT c.K H' a vs) (r : Reps c F H ws vs []) : Walks c (Itt c.K a) F ws := fun F' H' s s' i => by
  refine ⟨fun l => ⟨vs, h F' H' s s', by rw [r.len]; exact l⟩, fun w e => ?_⟩
  obtain ⟨v, h1, _⟩ := reps_get0 r e
  refine ⟨⟨vs, v, h F' H' s s', h1⟩, fun u H2 ⟨e2, k⟩ => ?_⟩
  subst e2
  have := k vs (h F' _ s s')
  rw [h1] at this
  cases this
  obtain ⟨v', h3, h4⟩ := reps_get0 (reps_at (F' := F') (H' := H2) r s) e
  rw [h1] at h3
  cases h3
  exact ⟨F', Grow.nul s', h4⟩
theorem walk_rng {lo : Int} {n : Nat} : Walks c (Itr lo n) F ((List.range n).map fun (i : Nat) => W.int (lo + (i : Int))) := fun F' H' s s' i => by
  refine ⟨fun l => by show n ≤ i; simpa using l, fun w e => ?_⟩
  rw [List.getElem?_map] at e
  obtain ⟨j, h1, h2⟩ := Option.map_eq_some_iff.mp e
  have hi : i < n := by
    have := (List.getElem?_eq_some_iff.mp h1).1
    simpa using this
  have hj : j = i := by
    rw [List.getElem?_range hi] at h1
    cases h1
    rfl
  subst hj
  refine ⟨hi, fun v H2 ⟨e1, e2⟩ => ?_⟩
  subst e1 e2 h2
  exact ⟨F', Grow.nul s', rfl, rfl⟩
theorem walk_enum {a : Addr} {ws : List W} {vs : List V} (h : ∀ F' H', Same F F' → Same F' H' → SqL c.K H' a vs) (r : Reps c F H ws vs []) : Walks c (Ite c.K a) F (ws.zipIdx.map fun p => .tup [.int p.2, p.1]) := fun F' H' s s' i => by
  refine ⟨fun l => ⟨vs, h F' H' s s', by rw [r.len]; simpa using l⟩, fun w e => ?_⟩
  rw [List.getElem?_map, List.getElem?_zipIdx] at e
  obtain ⟨q, h1, h2⟩ := Option.map_eq_some_iff.mp e
  obtain ⟨x, h3, h4⟩ := Option.map_eq_some_iff.mp h1
  subst h4 h2
  obtain ⟨v, h5, _⟩ := reps_get0 r h3
  refine ⟨⟨vs, v, h F' H' s s', h5⟩, fun u H2 ⟨T, y, e1, hT, e2, k⟩ => ?_⟩
  subst e1 e2
  have := k vs (h F' H' s s')
  rw [h5] at this
  cases this
  obtain ⟨v', h6, h7⟩ := reps_get0 (reps_at (F' := F') (H' := H') r s) h3
  rw [h5] at h6
  cases h6
  refine new_tup (Q := fun u H2 => ∃ F2, Grow F' H' F2 H2 [] ∧ Rep c F2 H2 (.tup [.int ((0 + i : Nat) : Int), x]) u []) (ws := [.int ((0 + i : Nat) : Int), x]) s' (g := []) ⟨.int ((i : Nat) : Int), [v], [], [], rfl, rfl, ⟨by simp, rfl⟩, rep1 h7⟩ rfl (fun v2 H2 F2 f2 g2 r2 => ?_) T hT
  obtain rfl := r2.isF (by
    have : x.isF = true := by
      have := frz_isF x
      rw [h7.ofNil] at this
      exact this
    show (W.isF (.int ((0 + i : Nat) : Int)) && (x.isF && true)) = true
    rw [this] <;> rfl)
  exact ⟨F2, g2, r2⟩
theorem walk_rev {a : Addr} {ws : List W} {vs : List V} (h : ∀ F' H', Same F F' → Same F' H' → SqL c.K H' a vs) (r : Reps c F H ws vs []) : Walks c (Itv c.K a vs.length) F ws.reverse := fun F' H' s s' i => by
  have hl := r.len
  refine ⟨fun l => by show vs.length ≤ i; rw [hl]; simpa using l, fun w e => ?_⟩
  have hi : i < ws.length := by
    have := (List.getElem?_eq_some_iff.mp e).1
    simpa using this
  rw [List.getElem?_reverse hi] at e
  have e' : ws[vs.length - 1 - i]? = some w := by rw [hl]; exact e
  obtain ⟨v, h1, _⟩ := reps_get0 r e'
  refine ⟨⟨by rw [hl]; exact hi, vs, v, h F' H' s s', h1⟩, fun u H2 ⟨e2, k⟩ => ?_⟩
  subst e2
  have := k vs (h F' _ s s')
  rw [h1] at this
  cases this
  obtain ⟨v', h3, h4⟩ := reps_get0 (reps_at (F' := F') (H' := H2) r s) e'
  rw [h1] at h3
  cases h3
  exact ⟨F', Grow.nul s', h4⟩
end
section
variable {p : Pl} {c : Cn} {X : Cx} {T : Tab} {call make : Cal}
/-- the iterable given away -/
theorem it_give {F H F1 H1 : Hp} {env' : Env} {σ : L2.St} {fp fp1 : Nat → List Addr} {fr : Addr → Prop} {mu : Nat → Bool} {ws : List W} {vs : List V} {f1 : List Addr} (A1 : Aft F H fp fr mu F1 H1 fp1) (R1 : Rel c F1 H1 env' σ fp1 (fun a => a ∈ f1 ∨ fr a)) (d1 : ∀ a ∈ f1, ¬ fr a) (r1 : Reps c F1 H1 ws vs f1) :
    Aft F H fp fr mu (ext F1 H1 f1) H1 fp1 ∧ Rel c (ext F1 H1 f1) H1 env' σ fp1 fr ∧ Reps c (ext F1 H1 f1) H1 (frzs ws) vs [] := by
  have ex : Same F1 (ext F1 H1 f1) := ext_same fun a ha => (R1.frm a (.inl ha)).1
  exact ⟨⟨A1.ext.trans ex, A1.kf, A1.ks, fun i hi a ha => (A1.kp i hi a ha).elim .inl fun ⟨o, h⟩ => .inr ⟨o, ex _ _ h⟩⟩, R1.give d1, r1.frz ex fun a ha => ext_in ha⟩
theorem evL1 {a : E} {env : Env} {ws : List W} {env' : Env} (ev : evL T call make (.cons a .nil) env = some (ws, env')) : ∃ w, ws = [w] ∧ evE T call make a env = some (w, env') := by
  unfold evL at ev
  split at ev
  · rename_i w env1 e1
    split at ev
    · rename_i us env2 e2
      cases ev
      unfold evL at e2
      cases e2
      exact ⟨w, rfl, e1⟩
    · cases ev
  · cases ev
theorem one_ok {g : Expr} {env : PySem.Env} (h : goodH g = true) : starEach [g] env = [(false, eval g env)] := goodH_star h
theorem frzs1 {w : W} : frzs [w] = [w.frz] := rfl
theorem it_rng1 {ws xs : List W} (h : items .rng1 ws = some xs) : ∃ n, ws = [.int n] ∧ -1000000 < n ∧ n < 1000000 ∧ xs = (List.range n.toNat).map fun (i : Nat) => W.int (0 + (i : Int)) := by
  rcases ws with _ | ⟨w, _ | ⟨w2, ws⟩⟩
  · cases h
  · cases w <;> first | (cases h; done) | skip
    obtain ⟨h1, h2⟩ := guardO_inv (show guardO _ _ = some xs from h)
    cases h2
    obtain ⟨h1, h2⟩ := and2 h1
    exact ⟨_, rfl, of_decide_eq_true h1, of_decide_eq_true h2, rfl⟩
  · cases w <;> cases h
theorem it_rng2 {ws xs : List W} (h : items .rng2 ws = some xs) : ∃ a b, ws = [.int a, .int b] ∧ -1000000 < a ∧ a < 1000000 ∧ -1000000 < b ∧ b < 1000000 ∧ xs = (List.range (b - a).toNat).map fun (i : Nat) => W.int (a + (i : Int)) := by
  rcases ws with _ | ⟨w, _ | ⟨w2, _ | ⟨w3, ws⟩⟩⟩
  · cases h
  · cases w <;> cases h
  · cases w <;> first | (cases h; done) | skip
    cases w2 <;> first | (cases h; done) | skip
    obtain ⟨h1, h2⟩ := guardO_inv (show guardO _ _ = some xs from h)
    cases h2
    obtain ⟨h1, h2⟩ := and2 h1
    obtain ⟨h2, h3⟩ := and2 h2
    obtain ⟨h3, h4⟩ := and2 h3
    exact ⟨_, _, rfl, of_decide_eq_true h1, of_decide_eq_true h2, of_decide_eq_true h3, of_decide_eq_true h4, rfl⟩
  · cases w <;> first | (cases h; done) | skip
    cases w2 <;> cases h
theorem it_enum {ws xs : List W} (h : items .enum ws = some xs) : ∃ o ys, ws = [.lst o ys] ∧ xs = ys.zipIdx.map fun p => .tup [.int p.2, p.1] := by
  rcases ws with _ | ⟨w, _ | ⟨w2, ws⟩⟩
  · cases h
  · cases w <;> first | (cases h; done) | skip
    cases h
    exact ⟨_, _, rfl, rfl⟩
  · cases w <;> cases h
theorem it_rev {ws xs : List W} (h : items .rev ws = some xs) : ∃ o ys, ws = [.lst o ys] ∧ xs = ys.reverse := by
  rcases ws with _ | ⟨w, _ | ⟨w2, ws⟩⟩
  · cases h
  · cases w <;> first | (cases h; done) | skip
    cases h
    exact ⟨_, _, rfl, rfl⟩
  · cases w <;> cases h
theorem reps_ints0 {c : Cn} {F H : Hp} : ∀ ns : List Int, Reps c F H (ns.map W.int) (ns.map V.int) []
  | [] => ⟨rfl, rfl⟩
  | n :: ns => ⟨_, _, [], [], rfl, rfl, ⟨rfl, rfl⟩, reps_ints0 ns⟩
theorem I_sound (x : XOk p c X) {tg e : Expr} {k : K} {it : E} {es : List Expr} (hm : mIt p tg k e = some es) (ha : PA X es (tL c T call make it)) (h1 : k = .seq → ∃ a, it = .cons a .nil ∧ ∀ e1, es = [e1] → PE X e1 (tE c T call make a)) :
    PI X tg e (tI c T call make k it) ∧ ∀ v, foldedSetIterable e X.env v = pure v := by
  unfold mIt at hm
  split at hm
  · -- a list or a tuple
    obtain ⟨a, rfl, hpe⟩ := h1 rfl
    split at hm
    · cases hm
    rename_i e' hns
    obtain ⟨_, h2⟩ := guardP_inv hm
    subst h2
    refine ⟨?_, fun v => by cases e <;> first | rfl | exact absurd rfl (hns _ _ _)⟩
    have he := hpe e rfl
    refine ⟨fun pins s σ H R I ⟨F, env, fp, fr, ws, env', xs, RR, ev, ei, k⟩ => ?_⟩
    obtain ⟨w, rfl, ee⟩ := evL1 ev
    rw [frzs1] at ei
    have lst : ∀ o ys, w = .lst o ys → xs = frzs ys → wpAny (model X.prog X.w) X.A (eval e X.env) (fun v s1 => wpAny (model X.prog X.w) X.A (pyIter v) (PIE X pins σ tg R) X.xe s1) X.xe s := fun o ys ew ex => by
      subst ew ex
      refine (pi_list he).run pins s σ H R I ⟨F, env, fp, fr, _, _, RR, ee, fun v H1 F1 fp1 f1 A1 R1 n1 d1 r1 => ?_⟩
      obtain ⟨A2, R2, r2⟩ := it_give A1 R1 d1 (rep1 r1)
      obtain ⟨v', e', r3⟩ := reps1n r2
      cases e'
      obtain ⟨a, vs, rfl, hF, rs⟩ := lst_nil r3
      have hsq : ∀ F' H', Same (ext F1 H1 f1) F' → Same F' H' → SqL X.K H' a vs := fun F' H' s1 s2 => .inl (.inl (s2 _ _ (s1 _ _ hF)))
      refine ⟨a, rfl, ⟨vs, hsq _ _ (Same.refl _) R2.same⟩, ?_⟩
      rw [x.K]
      rw [x.K] at hsq
      exact k _ _ H1 fp1 (A2.weak (fun i h => by simpa [muE] using h) fun _ h => h) R2 (walk_lst hsq rs)
    cases w <;> first | (cases ei; done) | skip
    · -- tuple
      cases ei
      refine (pi_tup he).run pins s σ H R I ⟨F, env, fp, fr, _, _, RR, ee, fun v H1 F1 fp1 f1 A1 R1 n1 d1 r1 => ?_⟩
      obtain ⟨A2, R2, r2⟩ := it_give A1 R1 d1 (rep1 r1)
      obtain ⟨v', e', r3⟩ := reps1n r2
      cases e'
      obtain ⟨_, a, vs, rfl, hF, rs⟩ := r3
      have hsq : ∀ F' H', Same (ext F1 H1 f1) F' → Same F' H' → SqT X.K H' a vs := fun F' H' s1 s2 => .inl (.inl (s2 _ _ (s1 _ _ hF)))
      refine ⟨a, rfl, ⟨vs, hsq _ _ (Same.refl _) R2.same⟩, ?_⟩
      rw [x.K]
      rw [x.K] at hsq
      exact k _ _ H1 fp1 (A2.weak (fun i h => by simpa [muE] using h) fun _ h => h) R2 (walk_tup hsq rs)
    · cases ei
      exact lst _ _ rfl rfl
    · cases ei
      rename_i ns
      refine (pi_list he).run pins s σ H R I ⟨F, env, fp, fr, _, _, RR, ee, fun v H1 F1 fp1 f1 A1 R1 n1 d1 r1 => ?_⟩
      obtain ⟨A2, R2, r2⟩ := it_give A1 R1 d1 (rep1 r1)
      obtain ⟨v', e', r3⟩ := reps1n r2
      cases e'
      obtain ⟨_, a, rfl, hF⟩ := r3
      have hsq : ∀ F' H', Same (ext F1 H1 f1) F' → Same F' H' → SqL c.K H' a (ns.map V.int) := fun F' H' s1 s2 => (s1.trans s2).seq hF
      refine ⟨a, rfl, ⟨_, by rw [x.K]; exact hsq _ _ (Same.refl _) R2.same⟩, ?_⟩
      rw [x.K]
      refine k _ _ H1 fp1 (A2.weak (fun i h => by simpa [muE] using h) fun _ h => h) R2 (walk_lst hsq (reps_ints0 (H := H1) ns))
  · rename_i y q a pos
    obtain ⟨g1, g2⟩ := guardP_inv hm
    subst g2
    obtain ⟨k2, k3⟩ := and2 g1
    clear g1 hm
    obtain ⟨hy, hg, hmg⟩ := x.blt k3
    subst hy
    refine ⟨⟨fun pins s σ H R I ⟨F, env, fp, fr, ws, env', xs, RR, ev, ei, k⟩ => (pi_range1 hg hmg ha (one_ok k2)).run pins s σ H R I ⟨F, env, fp, fr, ws, env', RR, ev, fun vs H1 F1 fp1 f1 A1 R1 n1 d1 r1 => ?_⟩⟩, fun v => rfl⟩
    obtain ⟨A2, R2, r2⟩ := it_give A1 R1 d1 r1
    obtain ⟨n, e1, b1, b2, rfl⟩ := it_rng1 ei
    rw [e1] at r2
    obtain ⟨v, rfl, rfl, _⟩ := reps1n r2
    exact ⟨n, rfl, by omega, by omega, k _ _ H1 fp1 A2 R2 walk_rng⟩
  · rename_i y q a b pos
    obtain ⟨g1, g2⟩ := guardP_inv hm
    subst g2
    obtain ⟨k2, g3⟩ := and2 g1
    obtain ⟨k4, k3⟩ := and2 g3
    clear g1 g3 hm
    obtain ⟨hy, hg, hmg⟩ := x.blt k3
    subst hy
    refine ⟨⟨fun pins s σ H R I ⟨F, env, fp, fr, ws, env', xs, RR, ev, ei, k⟩ => (pi_range2 hg hmg ha (by rw [goodH_star k2, one_ok k4]) (one_ok k4)).run pins s σ H R I ⟨F, env, fp, fr, ws, env', RR, ev, fun vs H1 F1 fp1 f1 A1 R1 n1 d1 r1 => ?_⟩⟩, fun v => rfl⟩
    obtain ⟨A2, R2, r2⟩ := it_give A1 R1 d1 r1
    obtain ⟨n, m, e1, b1, b2, b3, b4, rfl⟩ := it_rng2 ei
    rw [e1] at r2
    obtain ⟨v, u, rfl, ⟨rfl, _⟩, rfl, _⟩ := reps2n r2
    exact ⟨n, m, rfl, ⟨by omega, by omega, by omega, by omega⟩, k _ _ H1 fp1 A2 R2 walk_rng⟩
  · rename_i y q a pos
    split at hm
    rotate_left
    · cases hm
    obtain ⟨g1, g2⟩ := guardP_inv hm
    subst g2
    obtain ⟨k2, k3⟩ := and2 g1
    clear g1 hm
    obtain ⟨hy, hg, hmg⟩ := x.blt k3
    subst hy
    refine ⟨⟨fun pins s σ H R I ⟨F, env, fp, fr, ws, env', xs, RR, ev, ei, k⟩ => (pi_enum hg hmg ha (one_ok k2)).run pins s σ H R I ⟨F, env, fp, fr, ws, env', RR, ev, fun vs H1 F1 fp1 f1 A1 R1 n1 d1 r1 => ?_⟩⟩, fun v => rfl⟩
    obtain ⟨A2, R2, r2⟩ := it_give A1 R1 d1 r1
    obtain ⟨o, ys, e1, rfl⟩ := it_enum ei
    rw [e1] at r2
    obtain ⟨v, rfl, r3⟩ := reps1n r2
    obtain ⟨a, us, rfl, hF, rs⟩ := lst_nil r3
    have hsq : ∀ F' H', Same (ext F1 H1 f1) F' → Same F' H' → SqL X.K H' a us := fun F' H' s1 s2 => .inl (.inl (s2 _ _ (s1 _ _ hF)))
    refine ⟨a, us, rfl, hsq _ _ (Same.refl _) R2.same, ?_⟩
    rw [x.K]
    rw [x.K] at hsq
    exact k _ _ H1 fp1 A2 R2 (walk_enum hsq rs)
  · rename_i y q a pos
    obtain ⟨g1, g2⟩ := guardP_inv hm
    subst g2
    obtain ⟨k2, k3⟩ := and2 g1
    clear g1 hm
    obtain ⟨hy, hg, hmg⟩ := x.blt k3
    subst hy
    refine ⟨⟨fun pins s σ H R I ⟨F, env, fp, fr, ws, env', xs, RR, ev, ei, k⟩ => (pi_reversed hg hmg ha (one_ok k2)).run pins s σ H R I ⟨F, env, fp, fr, ws, env', RR, ev, fun vs H1 F1 fp1 f1 A1 R1 n1 d1 r1 => ?_⟩⟩, fun v => rfl⟩
    obtain ⟨A2, R2, r2⟩ := it_give A1 R1 d1 r1
    obtain ⟨o, ys, e1, rfl⟩ := it_rev ei
    rw [e1] at r2
    obtain ⟨v, rfl, r3⟩ := reps1n r2
    obtain ⟨a, us, rfl, hF, rs⟩ := lst_nil r3
    have hsq : ∀ F' H', Same (ext F1 H1 f1) F' → Same F' H' → SqL X.K H' a us := fun F' H' s1 s2 => .inl (.inl (s2 _ _ (s1 _ _ hF)))
    refine ⟨a, us, rfl, hsq _ _ (Same.refl _) R2.same, ?_⟩
    rw [x.K]
    rw [x.K] at hsq
    exact k _ _ H1 fp1 A2 R2 (walk_rev hsq rs)
  · cases hm
end
end Nb
end
section
set_option maxRecDepth 100000
namespace Nb
open PySem PySem.Spec PyProof.Rows L2
/-! ### comprehensions -/
theorem wipe_get {σ : L2.St} : ∀ {own : List Nat} {i : Nat}, (wipe σ own)[i]? = if i ∈ own then (if i < σ.length then some none else none) else σ[i]?
  | [], i => by simp [wipe]
  | v :: vs, i => by
    unfold wipe
    by_cases h : v = i
    · subst h
      rw [if_pos List.mem_cons_self, List.getElem?_set]
      simp [wipe_length]
    · rw [List.getElem?_set_ne h, wipe_get]
      have : (i ∈ v :: vs) ↔ i ∈ vs := by
        rw [List.mem_cons]
        exact ⟨fun z => z.elim (fun e => (h e.symm).elim) id, .inr⟩
      simp only [this]
theorem wipe_eq {σ σ2 : L2.St} {own : List Nat} (hl : σ2.length = σ.length) (h : ∀ i, i ∉ own → σ2[i]? = σ[i]?) : wipe σ2 own = wipe σ own := by
  refine List.ext_getElem? fun i => ?_
  rw [wipe_get, wipe_get, hl]
  split
  · rfl
  · rename_i z
    exact h i z
theorem wipe_wipe {σ : L2.St} {own : List Nat} : wipe (wipe σ own) own = wipe σ own := wipe_eq (wipe_length _ _) fun i h => by rw [wipe_get, if_neg h]
theorem wipeE_len {env : Env} : ∀ own : List Nat, (wipeE env own).length = env.length
  | [] => rfl
  | v :: vs => by
    unfold wipeE
    rw [List.length_set, wipeE_len vs]
theorem wipeE_get {env : Env} : ∀ {own : List Nat} {i : Nat} {w : W}, get (wipeE env own) i = some w → i ∉ own ∧ get env i = some w
  | [], i, w, h => ⟨by simp, h⟩
  | v :: vs, i, w, h => by
    unfold wipeE at h
    obtain ⟨h1, h2⟩ := get_set_none h
    obtain ⟨h3, h4⟩ := wipeE_get h2
    exact ⟨fun z => (List.mem_cons.mp z).elim h1 h3, h4⟩
theorem backE_len {e0 env : Env} : ∀ own : List Nat, (backE e0 env own).length = env.length
  | [] => rfl
  | v :: vs => by
    unfold backE
    rw [List.length_set, backE_len vs]
theorem backE_get {e0 env : Env} : ∀ {own : List Nat} {i : Nat} {w : W}, get (backE e0 env own) i = some w → (i ∈ own ∧ get e0 i = some w ∧ w.isF = true) ∨ (i ∉ own ∧ get env i = some w)
  | [], i, w, h => .inr ⟨by simp, h⟩
  | v :: vs, i, w, h => by
    unfold backE at h
    by_cases e : i = v
    · subst e
      left
      refine ⟨List.mem_cons_self, ?_⟩
      cases q : keepF (get e0 i) with
      | none =>
        rw [q] at h
        exact absurd rfl (get_set_none h).1
      | some u =>
        rw [q, get_set_self (by
          have := get_lt h
          rwa [List.length_set] at this)] at h
        cases h
        unfold keepF at q
        split at q
        · rename_i w0 e1
          obtain ⟨h1, h2⟩ := guardO_inv q
          cases h2
          exact ⟨e1, h1⟩
        · cases q
    · rw [get_set_ne e] at h
      rcases backE_get h with ⟨h1, h2⟩ | ⟨h1, h2⟩
      · exact .inl ⟨List.mem_cons_of_mem _ h1, h2⟩
      · exact .inr ⟨fun z => (List.mem_cons.mp z).elim e h1, h2⟩
def fpO (own : List Nat) (fp : Nat → List Addr) : Nat → List Addr := fun i => if own.contains i = true then [] else fp i
section
variable {c : Cn} {F H F' H' : Hp} {env env' : Env} {σ σ' : L2.St} {fp fp' : Nat → List Addr} {fr fr' : Addr → Prop} {own : List Nat}
theorem fpO_in {i : Nat} {a : Addr} (h : a ∈ fpO own fp i) : own.contains i = false ∧ a ∈ fp i := by
  unfold fpO at h
  split at h
  · exact nomatch h
  · rename_i z
    exact ⟨by simpa using z, h⟩
theorem fpO_out {i : Nat} (h : own.contains i = false) : fpO own fp i = fp i := by
  unfold fpO
  rw [h]
  rfl
theorem Rel.fps (R : Rel c F H env σ fp fr) (hl : env'.length = σ'.length) (hs : ∀ i w, get env' i = some w → ∃ v, σ'[i]? = some (some v) ∧ Rep c F H w v (fpO own fp i)) : Rel c F H env' σ' (fpO own fp) fr := by
  refine ⟨R.same, hl, hs, fun i => ?_, fun i j n a ha hb => R.dj i j n a (fpO_in ha).2 (fpO_in hb).2, fun i a ha => R.own i a (fpO_in ha).2, R.frm⟩
  unfold fpO
  split
  · exact .nil
  · exact R.nd i
theorem Rel.wipe (R : Rel c F H env σ fp fr) : Rel c F H (wipeE env own) (L2.wipe σ own) (fpO own fp) fr := by
  refine R.fps (by rw [wipeE_len, wipe_length, R.len]) fun i w e => ?_
  obtain ⟨h1, h2⟩ := wipeE_get e
  obtain ⟨v, h3, h4⟩ := R.slot i w h2
  refine ⟨v, by rw [wipe_get, if_neg h1]; exact h3, ?_⟩
  rw [fpO_out (by simpa using h1)]
  exact h4
theorem Rel.back {F0 H0 : Hp} {e0 : Env} {fp0 : Nat → List Addr} {fr0 : Addr → Prop} (R : Rel c F H env (L2.wipe σ own) fp fr) (R0 : Rel c F0 H0 e0 σ fp0 fr0) (s : Same F0 F) : Rel c F H (backE e0 env own) σ (fpO own fp) fr := by
  refine R.fps (by rw [backE_len, R.len, wipe_length]) fun i w e => ?_
  rcases backE_get e with ⟨h1, h2, h3⟩ | ⟨h1, h2⟩
  · obtain ⟨v, h4, h5⟩ := R0.slot i w h2
    have h6 := h5.isF h3
    rw [h6] at h5
    refine ⟨v, h4, ?_⟩
    have : fpO own fp i = [] := if_pos (by simpa using h1)
    rw [this]
    exact h5.fr s (fun _ z => nomatch z)
  · obtain ⟨v, h3, h4⟩ := R.slot i w h2
    refine ⟨v, (wipe_some h3).1, ?_⟩
    rw [fpO_out (by simpa using h1)]
    exact h4
/-- a write at a place of the frame -/
theorem Rel.write {D : Addr} {o : HO} (R : Rel c F H env σ fp fr) (hD : fr D) : Rel c F (upd H D o) env σ fp fr := by
  have hF : F D = none := (R.frm D hD).1
  have ne : ∀ {a}, F a = none → a ≠ D → (∃ o, H a = some o) → ∃ o', upd H D o a = some o' := fun {a} _ h ⟨o', e⟩ => ⟨o', by rw [upd_ne h]; exact e⟩
  refine ⟨fun a u e => ?_, R.len, fun i w e => ?_, R.nd, R.dj, fun i a ha => ?_, fun a ha => ?_⟩
  · have : a ≠ D := fun z => by
      rw [z, hF] at e
      cases e
    rw [upd_ne this]
    exact R.same _ _ e
  · obtain ⟨v, h1, h2⟩ := R.slot i w e
    refine ⟨v, h1, h2.fr (Same.refl F) fun a ha => upd_ne fun z => ?_⟩
    subst z
    exact (R.own i a ha).2.2 hD
  · obtain ⟨h1, h2, h3⟩ := R.own i a ha
    exact ⟨h1, ne h1 (fun z => h3 (z ▸ hD)) h2, h3⟩
  · obtain ⟨h1, h2⟩ := R.frm a ha
    refine ⟨h1, ?_⟩
    by_cases z : a = D
    · subst z
      exact ⟨_, upd_same⟩
    · exact ne h1 z h2
end
theorem compL_nil {bind : W → Env → Option Env} {test elt : Env → Option (W × Env)} {own : List Nat} {env : Env} {acc : List W} {r : List W × Env} (h : compL bind test elt own [] env acc = some r) : r = (acc, env) := by
  unfold compL at h
  cases h
  rfl
theorem compL_cons {bind : W → Env → Option Env} {test elt : Env → Option (W × Env)} {own : List Nat} {x : W} {xs : List W} {env : Env} {acc : List W} {r : List W × Env} (h : compL bind test elt own (x :: xs) env acc = some r) :
    ∃ env1 b env2, bind x env = some env1 ∧ test env1 = some (.bl b, env2) ∧ ((b = true ∧ ∃ w env3, elt env2 = some (w, env3) ∧ compL bind test elt own xs (wipeE env3 own) (acc ++ [w]) = some r) ∨
      (b = false ∧ compL bind test elt own xs (wipeE env2 own) acc = some r)) := by
  unfold compL at h
  split at h
  · rename_i env1 e1
    split at h
    · rename_i env2 e2
      split at h
      · rename_i w env3 e3
        exact ⟨env1, true, env2, e1, e2, .inl ⟨rfl, w, env3, e3, h⟩⟩
      · cases h
    · rename_i env2 e2
      exact ⟨env1, false, env2, e1, e2, .inr ⟨rfl, h⟩⟩
    · cases h
  · cases h
section
variable {p : Pl} {c : Cn} {X : Cx} {T : Tab} {call make : Cal}
theorem lc_run {k : K} {own : List Nat} {g : G} {it cnd a : E} (hG : ∀ i, inG g i = true → own.contains i = true) {F H : Hp} {env : Env} {σ : L2.St} {fp : Nat → List Addr} {fr : Addr → Prop} {w : W} {env' : Env} {Q : VK}
    (R : Rel c F H env σ fp fr) (ev : evE T call make (.lcp k own g it cnd a) env = some (w, env')) (kk : KE c F H σ fp fr (muE (.lcp k own g it cnd a)) w env' Q) :
    tLc (tI c T call make k it) (tG c 0 g) (tET c T call make cnd) (tE c T call make a) own σ H Q := by
  unfold evE at ev
  split at ev
  rotate_left
  · cases ev
  rename_i ws env1 e1
  split at ev
  rotate_left
  · cases ev
  rename_i xs e2
  split at ev
  rotate_left
  · cases ev
  rename_i hn
  have hn := of_decide_eq_true hn
  split at ev
  rotate_left
  · cases ev
  rename_i acc env2 e3
  cases ev
  refine ⟨F, env, fp, fr, ws, env1, xs, R, e1, e2, fun J F1 H1 fp1 A1 R1 wk D hD => ?_⟩
  refine ⟨fun i m H2 => m = xs.length - i ∧ i ≤ xs.length ∧ ∃ F2 fp2 accw envk vs fa, Aft F1 H1 fp1 fr (fun i => own.contains i || (muE cnd i || muE a i)) F2 H2 fp2 ∧ Rel c F2 H2 envk (wipe σ own) fp2 (fun a => a ∈ D :: fa ∨ fr a) ∧
    H2 D = some (.lst vs) ∧ Reps c F2 H2 accw vs fa ∧ (D :: fa).Nodup ∧ (∀ a ∈ D :: fa, ¬ fr a) ∧ accw.length ≤ i ∧ compL (fun x e => asg 0 g [x] e) (evE T call make cnd) (evE T call make a) own (xs.drop i) envk accw = some (acc, env2), ⟨_, rfl, Nat.zero_le _, ?_⟩, ?_⟩
  · -- the start
    have R2 := R1.wipe (own := own)
    have hne : ∀ {b : Addr}, (∃ o, H1 b = some o) → b ≠ D := fun {b} ⟨o, ho⟩ z => by
      rw [z, hD] at ho
      cases ho
    have g1 : Grow F1 H1 F1 (upd H1 D (.lst [])) [D] := ⟨Same.refl F1, same_newF R1.same hD, same_new hD, fun _ _ h => .inl h, by simp, fun b hb => by
      obtain rfl : b = D := by simpa using hb
      exact ⟨hD, R1.same.free hD, _, upd_same⟩⟩
    refine ⟨F1, fpO own fp1, [], wipeE env1 own, [], [], ⟨Same.refl F1, fun b hb => upd_ne (hne (R1.frm b hb).2), fun i _ b hb => upd_ne (hne (R1.own i b hb).2.1), fun i hi b hb => .inl (by rw [fpO_out (or_f hi).1]; exact hb)⟩, R2.grow g1, upd_same, ⟨rfl, rfl⟩, by simp, fun b hb hf => ?_, Nat.le_refl _, e3⟩
    obtain rfl : b = D := by simpa using hb
    exact hne (R1.frm b hf).2 rfl
  · rintro i m H2 ⟨rfl, hi, F2, fp2, accw, envk, vs, fa, A2, R2, hDv, rs, nd, nf, hl, ec⟩
    have fD : (fun a => a ∈ D :: fa ∨ fr a) D := .inl List.mem_cons_self
    by_cases hi2 : i = xs.length
    · left
      subst hi2
      rw [List.drop_length] at ec
      cases compL_nil ec
      refine ⟨(wk F2 H2 A2.ext R2.same _).1 (Nat.le_refl _), ?_⟩
      have R3 := Rel.back (own := own) R2 R1 A2.ext
      refine kk (.ref D) H2 F2 (fpO own fp2) (D :: fa) ((A1.trans (⟨A2.ext, A2.kf, A2.ks, fun i hi b hb => ?_⟩ : Aft F1 H1 fp1 fr (fun i => own.contains i || (muE cnd i || muE a i)) F2 H2 (fpO own fp2)) (fun _ h => h) R1.same R2.same).weak (fun i h => by simpa [muE] using h) fun _ h => h) R3 nd nf ⟨D, vs, fa, rfl, hDv, rfl, rs⟩
      rw [fpO_out (or_f hi).1]
      exact A2.kp i hi b hb
    · right
      obtain ⟨x, hx⟩ : ∃ x, xs[i]? = some x := ⟨xs[i]'(by omega), List.getElem?_eq_getElem (by omega)⟩
      have hdrop : xs.drop i = x :: xs.drop (i + 1) := by
        have h := List.drop_eq_getElem_cons (l := xs) (i := i) (by omega)
        rw [h]
        congr 1
        rw [List.getElem?_eq_getElem (by omega)] at hx
        cases hx
        rfl
      rw [hdrop] at ec
      obtain ⟨ea, b, eb, c1, c2, c3⟩ := compL_cons ec
      obtain ⟨go, yl⟩ := (wk F2 H2 A2.ext R2.same i).2 x hx
      refine ⟨go, fun H' => ∃ m', m' < xs.length - i ∧ (m' = xs.length - (i + 1) ∧ i + 1 ≤ xs.length ∧ ∃ F2 fp2 accw envk vs fa, Aft F1 H1 fp1 fr (fun i => own.contains i || (muE cnd i || muE a i)) F2 H' fp2 ∧ Rel c F2 H' envk (wipe σ own) fp2 (fun a => a ∈ D :: fa ∨ fr a) ∧
        H' D = some (.lst vs) ∧ Reps c F2 H' accw vs fa ∧ (D :: fa).Nodup ∧ (∀ a ∈ D :: fa, ¬ fr a) ∧ accw.length ≤ i + 1 ∧ compL (fun x e => asg 0 g [x] e) (evE T call make cnd) (evE T call make a) own (xs.drop (i + 1)) envk accw = some (acc, env2)), fun _ h => h, fun v H3 hy => ?_⟩
      obtain ⟨F3, g3, r3⟩ := yl v H3 hy
      have R3 := R2.grow g3
      have A3 : Aft F2 H2 fp2 (fun a => a ∈ D :: fa ∨ fr a) (fun _ => false) F3 H3 fp2 := g3.aft R2
      refine ⟨F3, envk, fp2, (fun a => a ∈ D :: fa ∨ fr a), x, [], ea, R3, .nil, (fun _ z => nomatch z), r3, c1, fun σ4 fp4 R4 k4 => ⟨?_, ?_⟩⟩
      · rw [← wipe_wipe (σ := σ) (own := own)]
        refine wipe_eq k4.len fun j hj => k4.sl j ?_
        cases q : inG g j with
        | false => rfl
        | true => exact absurd (by simpa using hG j q) hj
      have hw4 : wipe σ4 own = wipe σ own := by
        rw [← wipe_wipe (σ := σ) (own := own)]
        refine wipe_eq k4.len fun j hj => k4.sl j ?_
        cases q : inG g j with
        | false => rfl
        | true => exact absurd (by simpa using hG j q) hj
      have A4 : Aft F3 H3 fp2 (fun a => a ∈ D :: fa ∨ fr a) (fun i => own.contains i) F3 H3 fp4 := ⟨Same.refl _, fun _ _ => rfl, fun _ _ _ _ => rfl, fun j hj b hb => .inl (by
        rw [k4.fp j (by
          cases q : inG g j with
          | false => rfl
          | true =>
            rw [hG j q] at hj
            cases hj)]
        exact hb)⟩
      refine ⟨F3, ea, fp4, _, b, eb, R4, c2, fun H5 F5 fp5 A5 R5 => ?_⟩
      have A25 := ((A3.trans A4 (fun _ h => h) g3.sub R4.same).trans A5 (fun _ h => h) g3.sub R5.same)
      have hD5 : H5 D = some (.lst vs) := by rw [A25.kf D fD]; exact hDv
      have rs5 : Reps c F5 H5 accw vs fa := rs.fr A25.ext fun b hb => A25.kf b (.inl (List.mem_cons_of_mem _ hb))
      rcases c3 with ⟨rfl, wn, e7, c4, c5⟩ | ⟨rfl, c5⟩
      · refine iteT ?_
        refine ⟨F5, eb, fp5, _, wn, e7, R5, c4, fun y H6 F6 fp6 f6 A6 R6 n6 d6 r6 => ⟨vs, by rw [A6.kf D fD]; exact hD5, ?_, _, ?_, rfl, by omega, ?_⟩⟩
        · rw [rs5.len, sizeLine_eq]
          omega
        · omega
        have A26 := A25.trans A6 (fun _ h => h) R5.same R6.same
        have hne6 : ∀ b ∈ f6, b ≠ D := fun b hb z => d6 b hb (z ▸ fD)
        have hneF : ∀ b ∈ fa, b ≠ D := fun b hb z => (List.nodup_cons.mp nd).1 (z ▸ hb)
        have R7 := ((R6.write (D := D) (o := .lst (vs ++ [y])) (.inr fD)).wipe (own := own)).less (fr' := fun a => a ∈ D :: (fa ++ f6) ∨ fr a) fun b hb => by
          rcases hb with hb | hb
          · rcases List.mem_cons.mp hb with hb | hb
            · exact .inr (.inl (by rw [hb]; exact List.mem_cons_self))
            · rcases List.mem_append.mp hb with hb | hb
              · exact .inr (.inl (List.mem_cons_of_mem _ hb))
              · exact .inl hb
          · exact .inr (.inr hb)
        rw [hw4] at R7
        have rs6 : Reps c F6 (upd H6 D (.lst (vs ++ [y]))) accw vs fa := (rs5.fr A6.ext fun b hb => A6.kf b (.inl (List.mem_cons_of_mem _ hb))).fr (Same.refl _) fun b hb => upd_ne (hneF b hb)
        have rn : Rep c F6 (upd H6 D (.lst (vs ++ [y]))) wn y f6 := r6.fr (Same.refl _) fun b hb => upd_ne (hne6 b hb)
        refine ⟨F6, fpO own fp6, accw ++ [wn], wipeE e7 own, vs ++ [y], fa ++ f6, ?_, R7, upd_same, reps_app rs6 (rep1 rn), ?_, fun b hb hf => ?_, by simp; omega, c5⟩
        · have ATT := A2.trans A26 (fun _ h => .inr h) R2.same R6.same
          refine ⟨ATT.ext, fun b hb => ?_, fun j hj b hb => ?_, fun j hj b hb => ?_⟩
          · have hbD : b ≠ D := fun z => nf D List.mem_cons_self (by rw [← z]; exact hb)
            rw [upd_ne hbD]
            exact ATT.kf b hb
          · have hj' : (fun i => (own.contains i || (muE cnd i || muE a i)) || (((false || own.contains i) || muE cnd i) || muE a i)) j = false := by
              obtain ⟨h1, h2⟩ := or_f hj
              obtain ⟨h2, h3⟩ := or_f h2
              simp only [h1, h2, h3, Bool.false_or, Bool.or_false]
            rw [upd_ne fun z => ?_]
            · exact ATT.ks j hj' b hb
            · subst z
              rcases A2.kp j hj b hb with q | ⟨o, q⟩
              · exact (R2.own j b q).2.2 fD
              · rw [(R2.frm b fD).1] at q
                cases q
          · have hj' : (fun i => (own.contains i || (muE cnd i || muE a i)) || (((false || own.contains i) || muE cnd i) || muE a i)) j = false := by
              obtain ⟨h1, h2⟩ := or_f hj
              obtain ⟨h2, h3⟩ := or_f h2
              simp only [h1, h2, h3, Bool.false_or, Bool.or_false]
            rw [fpO_out (or_f hj).1]
            exact ATT.kp j hj' b hb
        · have h1 := nodup_app (List.nodup_cons.mp nd).2 n6 fun b hb hb2 => d6 b hb (.inl (List.mem_cons_of_mem _ hb2))
          refine List.nodup_cons.mpr ⟨fun z => ?_, h1⟩
          rcases List.mem_append.mp z with z | z
          · exact hneF D z rfl
          · exact hne6 D z rfl
        · rcases List.mem_cons.mp hb with hb | hb
          · exact nf b (by rw [hb]; exact List.mem_cons_self) hf
          · rcases List.mem_append.mp hb with hb | hb
            · exact nf b (List.mem_cons_of_mem _ hb) hf
            · exact d6 b hb (.inr hf)
      · refine iteF ?_
        have R7 := R5.wipe (own := own)
        rw [hw4] at R7
        refine ⟨_, ?_, rfl, by omega, F5, fpO own fp5, accw, wipeE eb own, vs, fa, ?_, R7, hD5, rs5, nd, nf, by omega, c5⟩
        · omega
        have ATT := A2.trans A25 (fun _ h => .inr h) R2.same R5.same
        have hjj : ∀ j, (own.contains j || (muE cnd j || muE a j)) = false → ((own.contains j || (muE cnd j || muE a j)) || ((false || own.contains j) || muE cnd j)) = false := fun j hj => by
          obtain ⟨h1, h2⟩ := or_f hj
          obtain ⟨h2, h3⟩ := or_f h2
          simp only [h1, h2, h3, Bool.false_or, Bool.or_false]
        refine ⟨ATT.ext, ATT.kf, fun j hj b hb => ATT.ks j (hjj j hj) b hb, fun j hj b hb => ?_⟩
        rw [fpO_out (or_f hj).1]
        exact ATT.kp j (hjj j hj) b hb
end
end Nb
end
section
set_option maxRecDepth 100000
namespace Nb
open PySem PySem.Spec PyProof.Rows L2
/-! ### the checker of expressions -/
def blkP (p : Pl) (scope : Scope) : Pl := { p with sc := relS scope p.sc, fn := fun x => scope.names.lookup x == some .cell }
def ownP (p : Pl) (own : List Nat) : List (Str × Nat) := own.map fun i => (p.N.getD i Str.empty, i)
def oneC : List Comprehension → Option Comprehension
  | [c] => guardP (c.is_async == 0) c
  | _ => none
def mLcp : Expr → Option (Expr × Comprehension × Scope)
  | .ListComp elt cs scope _ => match oneC cs with
    | some q => some (elt, q, scope)
    | none => none
  | _ => none
def isYes : E → Bool
  | .yes => true
  | _ => false
def one1 : List Expr → Option Expr
  | [e] => some e
  | _ => none
def isNilE : List Expr → Bool
  | [] => true
  | _ => false
def okE : E → Bool
  | .pv q => okP q
  | .and_ a b => okE a && okE b
  | .or_ a b => okE a && okE b
  | .not_ a => okE a
  | .ife _ _ _ => false
  | .un _ _ => true
  | .bi _ _ _ => true
  | .nil => false
  | .cons _ _ => false
  | .yes => false
  | .ds _ _ => false
  | .lcp _ _ _ _ _ _ => false
  | _ => true
def ownAll (own : List Nat) : G → Bool
  | .var i => own.contains i
  | .tup g => ownAll own g
  | .nil => true
  | .cons g r => ownAll own g && ownAll own r
def seqOk : K → E → Bool
  | .seq, .cons _ .nil => true
  | .seq, _ => false
  | _, _ => true
mutual
def cE : E → Pl → Expr → Bool
  | .pv q, p, e => cP p q e
  | .var i, p, e => mVar p i e
  | .un o a, p, e => match mUn p o e with
    | some e1 => cE a p e1
    | none => false
  | .bi o a b, p, e => match mBi p o e with
    | some (e1, e2) => cE a p e1 && cE b p e2
    | none => false
  | .ds o as, p, e => match mDs o e with
    | some es => cL as p es
    | none => false
  | .and_ a b, p, e => match mAnd e with
    | some (e1, e2) => cE a p e1 && cE b p e2
    | none => false
  | .or_ a b, p, e => match mOr e with
    | some (e1, e2) => cE a p e1 && cE b p e2
    | none => false
  | .not_ a, p, e => match mNot e with
    | some e1 => cE a p e1
    | none => false
  | .ife t a b, p, e => match mIf e with
    | some (e0, e1, e2) => okE t && (cE t p e0 && (cE a p e1 && cE b p e2))
    | none => false
  | .cal f as, p, e => match mCal p f e with
    | some es => goodA es && ((!isNilE es || noArg as) && cL as p es)
    | none => false
  | .cab f i as, p, e => match mCab p f i e with
    | some es => goodA es && cL as p es
    | none => false
  | .mtv m a as, p, e => match mMet p m e with
    | some (eo, es) => cE a p eo && ((!isNilE es || noArg as) && cL as p es)
    | none => false
  | .mtb m i as, p, e => match mMet p m e with
    | some (eo, es) => mVar p i eo && ((!isNilE es || noArg as) && cL as p es)
    | none => false
  | .mak d as, p, e => match mMak p d e with
    | some es => goodA es && ((!isNilE es || noArg as) && cL as p es)
    | none => false
  | .sup d as, p, e => match mSup p d e with
    | some es => cL as p es
    | none => false
  | .lcp k own g it t a, p, e => match mLcp e with
    | some (elt, q, scope) => match mIt p q.target k q.iter with
      | some es => seqOk k it && (cL it p es && (blkC p.N p.sc scope (ownP p own) && (ownAll own g && (cG (blkP p scope) g q.target && (cE a (blkP p scope) elt &&
        match isYes t with
        | true => isNilE q.ifs
        | false => match one1 q.ifs with
          | some e1 => okE t && cE t (blkP p scope) e1
          | none => false)))))
      | none => false
    | none => false
  | _, _, _ => false
def cL : E → Pl → List Expr → Bool
  | .nil, _, [] => true
  | .cons a r, p, e :: es => goodH e && (cE a p e && cL r p es)
  | _, _, _ => false
end
section
variable {c : Cn} {T : Tab} {call make : Cal}
theorem XOk.blk {p : Pl} {X : Cx} (x : XOk p c X) (s : Shared) (H : Hp) (scope : Scope) (C : Addr) (cl : List (Str × Addr)) (fp : List Addr) : XOk (blkP p scope) c (X.blk s H scope (compEnvC scope cl C X.env) fp) :=
  ⟨x.K, x.N, x.nd, by
    show relabel scope X.env = relS scope p.sc
    rw [← x.sc]
    rfl, x.calm, fun _ h => h, x.nm, x.free, x.mis, x.room⟩
theorem COk.blk {p : Pl} {X : Cx} (C : COk p c X T call make) (s : Shared) (H : Hp) (scope : Scope) (env : PySem.Env) (fp : List Addr) : COk (blkP p scope) c (X.blk s H scope env fp) T call make :=
  ⟨fun f ws r e => ⟨(C.fns f ws r e).ex⟩, fun f ws r e => ⟨(C.mks f ws r e).ex⟩, C.defs, C.clss, C.meth, C.init, C.fld, C.sup⟩
theorem ownAll_ok {own : List Nat} : ∀ {g : G}, ownAll own g = true → ∀ i, inG g i = true → own.contains i = true
  | .var j, h, i, e => by
    have : j = i := by simpa [inG] using e
    rw [← this]
    exact h
  | .tup g, h, i, e => ownAll_ok (g := g) h i e
  | .nil, _, i, e => by simp [inG] at e
  | .cons g r, h, i, e => by
    obtain ⟨h1, h2⟩ := and2 h
    have e : (inG g i || inG r i) = true := e
    cases q : inG g i with
    | true => exact ownAll_ok h1 i q
    | false =>
      rw [q, Bool.false_or] at e
      exact ownAll_ok h2 i e
theorem ownP_snd {p : Pl} : ∀ own : List Nat, (ownP p own).map (·.2) = own
  | [] => rfl
  | i :: own => by
    show i :: (ownP p own).map (·.2) = _
    rw [ownP_snd own]
theorem E_T {X : Cx} {a : E} {e : Expr} (h : PE X e (tE c T call make a)) (hp : plainT e = true) : PT X e (tET c T call make a) :=
  pt_mono (pt_plain h hp) fun σ H Q ⟨F, env, fp, fr, b, env', R, ev, k⟩ => ⟨F, env, fp, fr, .bl b, env', R, ev, fun v H' F' fp' f A R' n d r => by
    obtain ⟨rfl, rfl⟩ := r
    exact ⟨b, rfl, k H' F' fp' A (R'.less fun a h => .inr h)⟩⟩
theorem or_n {a b : Bool} (h : (!a || b) = true) (ha : a = true) : b = true := by
  subst ha
  simpa using h
theorem nil_n {es : List Expr} {as : E} (h : (!isNilE es || noArg as) = true) : es = [] → noArg as = true := fun e => or_n h (by rw [e] <;> rfl)
theorem tE_yes {X : Cx} : PTs X [] (tET c T call make .yes) := by
  refine ⟨fun pins s σ H Q I ⟨F, env, fp, fr, b, env', R, ev, k⟩ => pts_nil.run pins s σ H Q I ?_⟩
  unfold evE at ev
  cases ev
  exact k H F fp Aft.refl R
structure LcOk (c : Cn) (T : Tab) (call make : Cal) (p : Pl) (X : Cx) (k : K) (own : List Nat) (g : G) (it t a : E) (elt : Expr) (tg iter : Expr) (ifs : List Expr) (scope : Scope) : Prop where
  pi : PI X tg iter (tI c T call make k it)
  fs : ∀ v, foldedSetIterable iter X.env v = pure v
  blk : BlkOk X.N X.env.scope scope (ownP p own)
  pg : ∀ (s : Shared) (H : Hp) (C : Addr) (cl : List (Str × Addr)) (fp : List Addr), PG (X.blk s H scope (compEnvC scope cl C X.env) fp) tg (tG c 0 g)
  pt : ∀ (s : Shared) (H : Hp) (C : Addr) (cl : List (Str × Addr)) (fp : List Addr), PTs (X.blk s H scope (compEnvC scope cl C X.env) fp) ifs (tET c T call make t)
  pe : ∀ (s : Shared) (H : Hp) (C : Addr) (cl : List (Str × Addr)) (fp : List Addr), PE (X.blk s H scope (compEnvC scope cl C X.env) fp) elt (tE c T call make a)
  ow : ∀ i, inG g i = true → own.contains i = true
abbrev SE (c : Cn) (T : Tab) (call make : Cal) (a : E) : Prop := (∀ p X, XOk p c X → COk p c X T call make → ∀ e, cE a p e = true → PE X e (tE c T call make a)) ∧ (∀ p X, XOk p c X → COk p c X T call make → ∀ es, cL a p es = true → PA X es (tL c T call make a)) ∧
    (okE a = true → ∀ p X, XOk p c X → COk p c X T call make → ∀ e, cE a p e = true → PT X e (tET c T call make a)) ∧
    (okE a = true → ∀ p X, XOk p c X → COk p c X T call make → ∀ e, cE a p e = true → isBO e = true → PW X e (tET c T call make a)) ∧ (∀ b, a = .cons b .nil → ∀ p X, XOk p c X → COk p c X T call make → ∀ e, cE b p e = true → PE X e (tE c T call make b))
theorem seqOk_inv {it : E} (h : seqOk .seq it = true) : ∃ b, it = .cons b .nil := by
  cases it <;> first | (cases h; done) | skip
  rename_i b r
  cases r <;> first | (cases h; done) | skip
  exact ⟨b, rfl⟩
theorem one1_inv {l : List Expr} {e : Expr} (h : one1 l = some e) : l = [e] := by
  unfold one1 at h
  split at h
  · cases h
    rfl
  · cases h
theorem lcp_parts {p : Pl} {X : Cx} (x : XOk p c X) (C : COk p c X T call make) {k : K} {own : List Nat} {g : G} {it t a : E} (hi : SE c T call make it) (ht : SE c T call make t) (ha : SE c T call make a) {e : Expr} (h : cE (.lcp k own g it t a) p e = true) :
    ∃ elt tg iter ifs scope pos, e = .ListComp elt [⟨tg, iter, ifs, 0⟩] scope pos ∧ LcOk c T call make p X k own g it t a elt tg iter ifs scope := by
  unfold cE at h
  split at h
  rotate_left
  · cases h
  rename_i elt q scope hm
  split at h
  rotate_left
  · cases h
  rename_i es hes
  unfold mLcp at hm
  split at hm
  rotate_left
  · cases hm
  rename_i elt' cs scope' pos
  split at hm
  rotate_left
  · cases hm
  rename_i q' hq
  cases hm
  unfold oneC at hq
  split at hq
  rotate_left
  · cases hq
  rename_i q2
  obtain ⟨h0, h00⟩ := guardP_inv hq
  subst h00
  obtain ⟨tg, iter, ifs, as⟩ := q2
  have has : as = 0 := by simpa using h0
  subst has
  obtain ⟨h1, h⟩ := and2 h
  obtain ⟨h2, h⟩ := and2 h
  obtain ⟨h3, h⟩ := and2 h
  obtain ⟨h4, h⟩ := and2 h
  obtain ⟨h5, h⟩ := and2 h
  obtain ⟨h6, h7⟩ := and2 h
  have hI := I_sound x (T := T) (call := call) (make := make) hes (hi.2.1 p X x C es h2) fun hk => by
    subst hk
    obtain ⟨b, rfl⟩ := seqOk_inv h1
    refine ⟨b, rfl, fun e1 he => ?_⟩
    subst he
    unfold cL at h2
    obtain ⟨_, h2⟩ := and2 h2
    exact hi.2.2.2.2 b rfl p X x C e1 (and2 h2).1
  refine ⟨elt, tg, iter, ifs, scope, pos, rfl, hI.1, hI.2, ?_, fun s H C' cl fp => ?_, fun s H C' cl fp => ?_, fun s H C' cl fp => ?_, ownAll_ok h4⟩
  · rw [x.N, x.sc]
    exact blkOk_by h3
  · exact (G_sound (x.blk s H scope C' cl fp) 0 g).1 tg h5
  · split at h7
    · rename_i hy
      cases t <;> first | (cases hy; done) | skip
      cases ifs with
      | nil => exact tE_yes
      | cons => cases h7
    · split at h7
      · rename_i e1 he
        obtain ⟨h7, h8⟩ := and2 h7
        have he : ifs = [e1] := one1_inv he
        rw [he]
        exact pts_one (ht.2.2.1 h7 _ _ (x.blk s H scope C' cl fp) (C.blk s H scope _ fp) e1 h8)
      · cases h7
  · exact ha.1 _ _ (x.blk s H scope C' cl fp) (C.blk s H scope _ fp) elt h6
theorem e_lcp {p : Pl} {X : Cx} (x : XOk p c X) {k : K} {own : List Nat} {g : G} {it t a : E} {elt tg iter : Expr} {ifs : List Expr} {scope : Scope} {pos : Pos} (L : LcOk c T call make p X k own g it t a elt tg iter ifs scope) :
    PE X (.ListComp elt [⟨tg, iter, ifs, 0⟩] scope pos) (tE c T call make (.lcp k own g it t a)) := by
  refine pe_mono (pe_lc x.calm (by rw [x.N]; exact x.nd) L.pi L.blk L.pg L.pt L.pe L.fs) fun σ H Q ⟨F, env, fp, fr, w, env', R, ev, kk⟩ => ?_
  rw [ownP_snd]
  exact lc_run L.ow R ev kk
theorem E_sound : ∀ a : E, SE c T call make a := by
  intro a
  have no1 : ∀ {x : Bool}, x = false → x = true → False := fun h1 h2 => by rw [h1] at h2; cases h2
  induction a with
  | pv q =>
    refine ⟨fun p X x C e h => ?_, fun p X x C es h => ?_, fun ho p X x C e h => ?_, fun ho p X x C e h hb => ?_, fun _ z => nomatch z⟩
    · unfold cE at h
      exact e_pv ((P_sound x q).1 e h)
    · unfold cL at h
      cases h
    · unfold cE at h
      exact e_pvT ((P_sound x q).2.1 ho e h)
    · unfold cE at h
      exact e_pvW ((P_sound x q).2.2 ho e h hb)
  | var i =>
    have pe : ∀ p X, XOk p c X → COk p c X T call make → ∀ e, cE (.var i) p e = true → PE X e (tE c T call make (.var i)) := fun p X x C e h => by
      unfold cE at h
      exact e_var (var_sound x h)
    refine ⟨pe, fun p X x C es h => ?_, fun ho p X x C e h => E_T (pe p X x C e h) ?_, fun ho p X x C e h hb => ?_, fun _ z => nomatch z⟩
    · unfold cL at h
      cases h
    all_goals
      unfold cE mVar at h
      split at h
    · rfl
    · cases h
    · cases hb
    · cases h
  | un o a ih =>
    have inv : ∀ {p e}, cE (.un o a) p e = true → ∃ e1, mUn p o e = some e1 ∧ cE a p e1 = true := fun {p e} h => by
      unfold cE at h
      split at h
      · rename_i e1 hm
        exact ⟨e1, hm, h⟩
      · cases h
    refine ⟨fun p X x C e h => ?_, fun p X x C es h => ?_, fun ho p X x C e h => ?_, fun ho p X x C e h hb => ?_, fun _ z => nomatch z⟩
    · obtain ⟨e1, hm, h⟩ := inv h
      exact e_un x hm (ih.1 p X x C e1 h)
    · unfold cL at h
      cases h
    · obtain ⟨e1, hm, h⟩ := inv h
      exact e_unT x hm (ih.1 p X x C e1 h)
    · obtain ⟨e1, hm, h⟩ := inv h
      cases e <;> first | (cases hb; done) | (cases hm; done)
  | bi o a b iha ihb =>
    have inv : ∀ {p e}, cE (.bi o a b) p e = true → ∃ e1 e2, mBi p o e = some (e1, e2) ∧ cE a p e1 = true ∧ cE b p e2 = true := fun {p e} h => by
      unfold cE at h
      split at h
      · rename_i e1 e2 hm
        obtain ⟨g1, g2⟩ := and2 h
        exact ⟨e1, e2, hm, g1, g2⟩
      · cases h
    refine ⟨fun p X x C e h => ?_, fun p X x C es h => ?_, fun ho p X x C e h => ?_, fun ho p X x C e h hb => ?_, fun _ z => nomatch z⟩
    · obtain ⟨e1, e2, hm, g1, g2⟩ := inv h
      exact e_bi x hm (iha.1 p X x C e1 g1) (ihb.1 p X x C e2 g2)
    · unfold cL at h
      cases h
    · obtain ⟨e1, e2, hm, g1, g2⟩ := inv h
      exact e_biT x hm (iha.1 p X x C e1 g1) (ihb.1 p X x C e2 g2)
    · obtain ⟨e1, e2, hm, g1, g2⟩ := inv h
      cases e <;> first | (cases hb; done) | (cases hm; done)
  | ds o as ih =>
    refine ⟨fun p X x C e h => ?_, fun p X x C es h => ?_, fun ho => (no1 rfl ho).elim, fun ho => (no1 rfl ho).elim, fun _ z => nomatch z⟩
    · unfold cE at h
      split at h
      · rename_i es hm
        exact e_ds hm (ih.2.1 p X x C es h)
      · cases h
    · unfold cL at h
      cases h
  | nil =>
    refine ⟨fun p X x C e h => ?_, fun p X x C es h => ?_, fun ho => (no1 rfl ho).elim, fun ho => (no1 rfl ho).elim, fun _ z => nomatch z⟩
    · unfold cE at h
      cases h
    · cases es with
      | nil => exact e_nil
      | cons e es =>
        unfold cL at h
        cases h
  | cons a r iha ihr =>
    refine ⟨fun p X x C e h => ?_, fun p X x C es h => ?_, fun ho => (no1 rfl ho).elim, fun ho => (no1 rfl ho).elim, fun b z p X x C e h => ?_⟩
    · unfold cE at h
      cases h
    · cases es with
      | nil =>
        unfold cL at h
        cases h
      | cons e es =>
        unfold cL at h
        obtain ⟨h1, h2⟩ := and2 h
        obtain ⟨h2, h3⟩ := and2 h2
        exact e_cons (iha.1 p X x C e h2) (ihr.2.1 p X x C es h3) h1
    · cases z
      exact iha.1 p X x C e h
  | and_ a b iha ihb =>
    have inv : ∀ {p e}, cE (.and_ a b) p e = true → ∃ e1 e2, mAnd e = some (e1, e2) ∧ cE a p e1 = true ∧ cE b p e2 = true := fun {p e} h => by
      unfold cE at h
      split at h
      · rename_i e1 e2 hm
        obtain ⟨g1, g2⟩ := and2 h
        exact ⟨e1, e2, hm, g1, g2⟩
      · cases h
    have pw : okE (.and_ a b) = true → ∀ p X, XOk p c X → COk p c X T call make → ∀ e, cE (.and_ a b) p e = true → PW X e (tET c T call make (.and_ a b)) := fun ho p X x C e h => by
      obtain ⟨o1, o2⟩ := and2 ho
      obtain ⟨e1, e2, hm, g1, g2⟩ := inv h
      exact e_andW hm (iha.2.2.1 o1 p X x C e1 g1) (ihb.2.2.1 o2 p X x C e2 g2) (ihb.2.2.2.1 o2 p X x C e2 g2)
    refine ⟨fun p X x C e h => ?_, fun p X x C es h => ?_, fun ho p X x C e h => (pw ho p X x C e h).pt, fun ho p X x C e h hb => pw ho p X x C e h, fun _ z => nomatch z⟩
    · obtain ⟨e1, e2, hm, g1, g2⟩ := inv h
      exact e_and hm (iha.1 p X x C e1 g1) (ihb.1 p X x C e2 g2)
    · unfold cL at h
      cases h
  | or_ a b iha ihb =>
    have inv : ∀ {p e}, cE (.or_ a b) p e = true → ∃ e1 e2, mOr e = some (e1, e2) ∧ cE a p e1 = true ∧ cE b p e2 = true := fun {p e} h => by
      unfold cE at h
      split at h
      · rename_i e1 e2 hm
        obtain ⟨g1, g2⟩ := and2 h
        exact ⟨e1, e2, hm, g1, g2⟩
      · cases h
    have pw : okE (.or_ a b) = true → ∀ p X, XOk p c X → COk p c X T call make → ∀ e, cE (.or_ a b) p e = true → PW X e (tET c T call make (.or_ a b)) := fun ho p X x C e h => by
      obtain ⟨o1, o2⟩ := and2 ho
      obtain ⟨e1, e2, hm, g1, g2⟩ := inv h
      exact e_orW hm (iha.2.2.1 o1 p X x C e1 g1) (ihb.2.2.1 o2 p X x C e2 g2) (ihb.2.2.2.1 o2 p X x C e2 g2)
    refine ⟨fun p X x C e h => ?_, fun p X x C es h => ?_, fun ho p X x C e h => (pw ho p X x C e h).pt, fun ho p X x C e h hb => pw ho p X x C e h, fun _ z => nomatch z⟩
    · obtain ⟨e1, e2, hm, g1, g2⟩ := inv h
      exact e_or hm (iha.1 p X x C e1 g1) (ihb.1 p X x C e2 g2)
    · unfold cL at h
      cases h
  | not_ a ih =>
    have inv : ∀ {p e}, cE (.not_ a) p e = true → ∃ e1, mNot e = some e1 ∧ cE a p e1 = true := fun {p e} h => by
      unfold cE at h
      split at h
      · rename_i e1 hm
        exact ⟨e1, hm, h⟩
      · cases h
    refine ⟨fun p X x C e h => ?_, fun p X x C es h => ?_, fun ho p X x C e h => ?_, fun ho p X x C e h hb => ?_, fun _ z => nomatch z⟩
    · obtain ⟨e1, hm, h⟩ := inv h
      exact e_not hm (ih.1 p X x C e1 h)
    · unfold cL at h
      cases h
    · obtain ⟨e1, hm, h⟩ := inv h
      exact e_notT hm (ih.2.2.1 ho p X x C e1 h)
    · obtain ⟨e1, hm, h⟩ := inv h
      cases e <;> first | (cases hb; done) | (cases hm; done)
  | ife t a b iht iha ihb =>
    refine ⟨fun p X x C e h => ?_, fun p X x C es h => ?_, fun ho => (no1 rfl ho).elim, fun ho => (no1 rfl ho).elim, fun _ z => nomatch z⟩
    · unfold cE at h
      split at h
      · rename_i e0 e1 e2 hm
        obtain ⟨g0, g1⟩ := and2 h
        obtain ⟨g1, g2⟩ := and2 g1
        obtain ⟨g2, g3⟩ := and2 g2
        exact e_if hm (iht.2.2.1 g0 p X x C e0 g1) (iha.1 p X x C e1 g2) (ihb.1 p X x C e2 g3)
      · cases h
    · unfold cL at h
      cases h
  | cal f as ih =>
    have pe : ∀ p X, XOk p c X → COk p c X T call make → ∀ e, cE (.cal f as) p e = true → PE X e (tE c T call make (.cal f as)) ∧ plainT e = true ∧ isBO e = false := fun p X x C e h => by
      unfold cE at h
      split at h
      · rename_i es hm
        obtain ⟨h1, h2⟩ := and2 h
        obtain ⟨h2, h3⟩ := and2 h2
        refine ⟨e_cal x C hm (ih.2.1 p X x C es h3) (nil_n h2) h1, ?_⟩
        unfold mCal at hm
        split at hm
        · exact ⟨rfl, rfl⟩
        · cases hm
      · cases h
    refine ⟨fun p X x C e h => (pe p X x C e h).1, fun p X x C es h => ?_, fun ho p X x C e h => E_T (pe p X x C e h).1 (pe p X x C e h).2.1, fun ho p X x C e h hb => (no1 (pe p X x C e h).2.2 hb).elim, fun _ z => nomatch z⟩
    unfold cL at h
    cases h
  | cab f i as ih =>
    have pe : ∀ p X, XOk p c X → COk p c X T call make → ∀ e, cE (.cab f i as) p e = true → PE X e (tE c T call make (.cab f i as)) ∧ plainT e = true ∧ isBO e = false := fun p X x C e h => by
      unfold cE at h
      split at h
      · rename_i es hm
        obtain ⟨h1, h3⟩ := and2 h
        refine ⟨e_cab x C hm (ih.2.1 p X x C es h3) h1, ?_⟩
        unfold mCab at hm
        split at hm
        · exact ⟨rfl, rfl⟩
        · cases hm
      · cases h
    refine ⟨fun p X x C e h => (pe p X x C e h).1, fun p X x C es h => ?_, fun ho p X x C e h => E_T (pe p X x C e h).1 (pe p X x C e h).2.1, fun ho p X x C e h hb => (no1 (pe p X x C e h).2.2 hb).elim, fun _ z => nomatch z⟩
    unfold cL at h
    cases h
  | mtv m a as iha ih =>
    have pe : ∀ p X, XOk p c X → COk p c X T call make → ∀ e, cE (.mtv m a as) p e = true → PE X e (tE c T call make (.mtv m a as)) ∧ plainT e = true ∧ isBO e = false := fun p X x C e h => by
      unfold cE at h
      split at h
      · rename_i eo es hm
        obtain ⟨h1, h2⟩ := and2 h
        obtain ⟨h2, h3⟩ := and2 h2
        refine ⟨e_mtv x C hm (iha.1 p X x C eo h1) (ih.2.1 p X x C es h3) (nil_n h2), ?_⟩
        unfold mMet at hm
        split at hm
        · exact ⟨rfl, rfl⟩
        · cases hm
      · cases h
    refine ⟨fun p X x C e h => (pe p X x C e h).1, fun p X x C es h => ?_, fun ho p X x C e h => E_T (pe p X x C e h).1 (pe p X x C e h).2.1, fun ho p X x C e h hb => (no1 (pe p X x C e h).2.2 hb).elim, fun _ z => nomatch z⟩
    unfold cL at h
    cases h
  | mtb m i as ih =>
    have pe : ∀ p X, XOk p c X → COk p c X T call make → ∀ e, cE (.mtb m i as) p e = true → PE X e (tE c T call make (.mtb m i as)) ∧ plainT e = true ∧ isBO e = false := fun p X x C e h => by
      unfold cE at h
      split at h
      · rename_i eo es hm
        obtain ⟨h1, h2⟩ := and2 h
        obtain ⟨h2, h3⟩ := and2 h2
        refine ⟨e_mtb x C hm h1 (ih.2.1 p X x C es h3) (nil_n h2), ?_⟩
        unfold mMet at hm
        split at hm
        · exact ⟨rfl, rfl⟩
        · cases hm
      · cases h
    refine ⟨fun p X x C e h => (pe p X x C e h).1, fun p X x C es h => ?_, fun ho p X x C e h => E_T (pe p X x C e h).1 (pe p X x C e h).2.1, fun ho p X x C e h hb => (no1 (pe p X x C e h).2.2 hb).elim, fun _ z => nomatch z⟩
    unfold cL at h
    cases h
  | mak d as ih =>
    have pe : ∀ p X, XOk p c X → COk p c X T call make → ∀ e, cE (.mak d as) p e = true → PE X e (tE c T call make (.mak d as)) ∧ plainT e = true ∧ isBO e = false := fun p X x C e h => by
      unfold cE at h
      split at h
      · rename_i es hm
        obtain ⟨h1, h2⟩ := and2 h
        obtain ⟨h2, h3⟩ := and2 h2
        refine ⟨e_mak x C hm (ih.2.1 p X x C es h3) (nil_n h2) h1, ?_⟩
        unfold mMak at hm
        split at hm
        · exact ⟨rfl, rfl⟩
        · cases hm
      · cases h
    refine ⟨fun p X x C e h => (pe p X x C e h).1, fun p X x C es h => ?_, fun ho p X x C e h => E_T (pe p X x C e h).1 (pe p X x C e h).2.1, fun ho p X x C e h hb => (no1 (pe p X x C e h).2.2 hb).elim, fun _ z => nomatch z⟩
    unfold cL at h
    cases h
  | sup d as ih =>
    have pe : ∀ p X, XOk p c X → COk p c X T call make → ∀ e, cE (.sup d as) p e = true → PE X e (tE c T call make (.sup d as)) ∧ plainT e = true ∧ isBO e = false := fun p X x C e h => by
      unfold cE at h
      split at h
      · rename_i es hm
        refine ⟨e_sup x C hm (ih.2.1 p X x C es h), ?_⟩
        unfold mSup at hm
        split at hm
        · exact ⟨rfl, rfl⟩
        · cases hm
      · cases h
    refine ⟨fun p X x C e h => (pe p X x C e h).1, fun p X x C es h => ?_, fun ho p X x C e h => E_T (pe p X x C e h).1 (pe p X x C e h).2.1, fun ho p X x C e h hb => (no1 (pe p X x C e h).2.2 hb).elim, fun _ z => nomatch z⟩
    unfold cL at h
    cases h
  | yes =>
    refine ⟨fun p X x C e h => ?_, fun p X x C es h => ?_, fun ho => (no1 rfl ho).elim, fun ho => (no1 rfl ho).elim, fun _ z => nomatch z⟩
    · unfold cE at h
      cases h
    · unfold cL at h
      cases h
  | lcp k own g it t a ihi iht iha =>
    refine ⟨fun p X x C e h => ?_, fun p X x C es h => ?_, fun ho => (no1 rfl ho).elim, fun ho => (no1 rfl ho).elim, fun _ z => nomatch z⟩
    · obtain ⟨elt, tg, iter, ifs, scope, pos, rfl, L⟩ := lcp_parts x C ihi iht iha h
      exact e_lcp x L
    · unfold cL at h
      cases h
end
end Nb
end
section
set_option maxRecDepth 100000
namespace Nb
open PySem PySem.Spec PyProof.Rows L2
/-! ### places -/
def RdP (c : Cn) (H : Hp) : List Ac → V → V → Prop
  | [], v, x => x = v
  | .ix (.int i) :: r, v, x => ∃ a vs j u, v = .ref a ∧ H a = some (.lst vs) ∧ ixP vs.length i = some j ∧ vs[j]? = some u ∧ RdP c H r u x
  | .fd f :: r, v, x => ∃ a C dx fs u, v = .ref a ∧ H a = some (.ins (c.ca C) dx fs) ∧ c.okc C = true ∧ c.okf C f = true ∧ fs.lookup (c.nm f) = some u ∧ RdP c H r u x
  | _ :: _, _, _ => False
section
variable {c : Cn} {F H : Hp}
theorem RdP.app : ∀ {l m : List Ac} {v x : V}, RdP c H (l ++ m) v x → ∃ u, RdP c H l v u ∧ RdP c H m u x
  | [], m, v, x, h => ⟨v, rfl, h⟩
  | .ix (.int i) :: r, m, v, x, h => by
    obtain ⟨a, vs, j, u, h1, h2, h3, h4, h5⟩ := h
    obtain ⟨y, h6, h7⟩ := RdP.app h5
    exact ⟨y, ⟨a, vs, j, u, h1, h2, h3, h4, h6⟩, h7⟩
  | .fd f :: r, m, v, x, h => by
    obtain ⟨a, C, dx, fs, u, h1, h2, h3, h4, h5, h6⟩ := h
    obtain ⟨y, h7, h8⟩ := RdP.app h6
    exact ⟨y, ⟨a, C, dx, fs, u, h1, h2, h3, h4, h5, h7⟩, h8⟩
  | .ix .non :: r, m, v, x, h => h.elim
  | .ix (.bl _) :: r, m, v, x, h => h.elim
  | .ix (.str _) :: r, m, v, x, h => h.elim
  | .ix (.fn _) :: r, m, v, x, h => h.elim
  | .ix (.tup _) :: r, m, v, x, h => h.elim
  | .ix (.lst _ _) :: r, m, v, x, h => h.elim
  | .ix (.dic _ _ _) :: r, m, v, x, h => h.elim
  | .ix (.ins _ _ _ _) :: r, m, v, x, h => h.elim
  | .ix (.set _) :: r, m, v, x, h => h.elim
  | .ix (.rng _ _) :: r, m, v, x, h => h.elim
  | .ix (.scr _) :: r, m, v, x, h => h.elim
theorem RdP.det : ∀ {l : List Ac} {v x y : V}, RdP c H l v x → RdP c H l v y → x = y
  | [], v, x, y, h, k => h.trans k.symm
  | .ix (.int i) :: r, v, x, y, h, k => by
    obtain ⟨a, vs, j, u, h1, h2, h3, h4, h5⟩ := h
    obtain ⟨a', vs', j', u', k1, k2, k3, k4, k5⟩ := k
    rw [h1] at k1
    cases k1
    rw [h2] at k2
    cases k2
    rw [h3] at k3
    cases k3
    rw [h4] at k4
    cases k4
    exact RdP.det h5 k5
  | .fd f :: r, v, x, y, h, k => by
    obtain ⟨a, C, dx, fs, u, h1, h2, h3, h4, h5, h6⟩ := h
    obtain ⟨a', C', dx', fs', u', k1, k2, k3, k4, k5, k6⟩ := k
    rw [h1] at k1
    cases k1
    rw [h2] at k2
    have e : fs = fs' := by
      simp only [Option.some.injEq, HO.ins.injEq] at k2
      exact k2.2.2
    subst e
    rw [h5] at k5
    cases k5
    exact RdP.det h6 k6
  | .ix .non :: r, _, _, _, h, _ => h.elim
  | .ix (.bl _) :: r, _, _, _, h, _ => h.elim
  | .ix (.str _) :: r, _, _, _, h, _ => h.elim
  | .ix (.fn _) :: r, _, _, _, h, _ => h.elim
  | .ix (.tup _) :: r, _, _, _, h, _ => h.elim
  | .ix (.lst _ _) :: r, _, _, _, h, _ => h.elim
  | .ix (.dic _ _ _) :: r, _, _, _, h, _ => h.elim
  | .ix (.ins _ _ _ _) :: r, _, _, _, h, _ => h.elim
  | .ix (.set _) :: r, _, _, _, h, _ => h.elim
  | .ix (.rng _ _) :: r, _, _, _, h, _ => h.elim
  | .ix (.scr _) :: r, _, _, _, h, _ => h.elim
/-- one item of many, and what else there is -/
theorem reps_split : ∀ {ws : List W} {vs : List V} {f : List Addr} {j : Nat} {y : W}, Reps c F H ws vs f → ws[j]? = some y →
    ∃ u fa fy fb, vs[j]? = some u ∧ f = fa ++ (fy ++ fb) ∧ Rep c F H y u fy ∧ ∀ F' H' y' u' fy', Same F F' → (∀ a, a ∈ fa ∨ a ∈ fb → H' a = H a) → Rep c F' H' y' u' fy' → Reps c F' H' (ws.set j y') (vs.set j u') (fa ++ (fy' ++ fb))
  | [], _, _, _, _, _, h => by simp at h
  | w :: ws, _, _, 0, y, r, h => by
    obtain ⟨v, t, f1, f2, rfl, rfl, r1, r2⟩ := r
    simp at h
    subst h
    exact ⟨v, [], f1, f2, rfl, rfl, r1, fun F' H' y' u' fy' s k ry => ⟨u', t, fy', f2, rfl, rfl, ry, r2.fr s fun a ha => k a (.inr ha)⟩⟩
  | w :: ws, _, _, j + 1, y, r, h => by
    obtain ⟨v, t, f1, f2, rfl, rfl, r1, r2⟩ := r
    obtain ⟨u, fa, fy, fb, h1, rfl, h2, h3⟩ := reps_split r2 (by simpa using h)
    refine ⟨u, f1 ++ fa, fy, fb, h1, by rw [List.append_assoc], h2, fun F' H' y' u' fy' s k ry => ?_⟩
    rw [List.append_assoc]
    exact ⟨v, _, f1, _, rfl, rfl, r1.fr s fun a ha => k a (.inl (List.mem_append_left _ ha)), h3 F' H' y' u' fy' s (fun a ha => k a (ha.elim (fun z => .inl (List.mem_append_right _ z)) .inr)) ry⟩
theorem getset {α : Type} {l : List α} {j : Nat} {u : α} (h : l[j]? = some u) : l.set j u = l := by
  refine List.ext_getElem? fun i => ?_
  rw [List.getElem?_set]
  split
  · rename_i e
    subst e
    have := (List.getElem?_eq_some_iff.mp h).1
    rw [if_pos this, h]
  · rfl
/-- what can be read -/
theorem rd_of : ∀ {l : List Ac} {w x : W} {v : V} {fp : List Addr}, Rep c F H w v fp → subP l w = some x → ∃ vx fx, Rep c F H x vx fx ∧ ∀ H', (∀ a ∈ fp, H' a = H a) → RdP c H' l v vx
  | [], w, x, v, fp, r, h => ⟨v, fp, by
    unfold subP at h
    cases h
    exact r, fun _ _ => rfl⟩
  | .ix k :: l, w, x, v, fp, r, h => by
    cases k <;> first | (unfold subP at h; cases h; done) | skip
    cases w <;> first | (unfold subP at h; cases h; done) | skip
    rename_i i o ws
    cases o
    · unfold subP at h
      cases h
    unfold subP at h
    split at h
    · rename_i j ej
      split at h
      · rename_i y ey
        obtain ⟨a, vs, f1, rfl, ha, rfl, rs⟩ := r
        obtain ⟨u, fa, fy, fb, h1, rfl, h2, _⟩ := reps_split rs ey
        obtain ⟨vx, fx, hr, hx⟩ := rd_of h2 h
        refine ⟨vx, fx, hr, fun H' k => ⟨a, vs, j, u, rfl, by rw [k a List.mem_cons_self]; exact ha, by rw [rs.len]; exact ej, h1, hx H' fun b hb => k b ?_⟩⟩
        exact List.mem_cons_of_mem _ (List.mem_append_right _ (List.mem_append_left _ hb))
      · cases h
    · cases h
  | .fd f :: l, w, x, v, fp, r, h => by
    cases w <;> first | (unfold subP at h; cases h; done) | skip
    rename_i o C fs ws
    cases o
    · unfold subP at h
      cases h
    unfold subP at h
    split at h
    · rename_i j ej
      split at h
      · rename_i y ey
        obtain ⟨a, dx, vs, f1, rfl, ha, rfl, hl, io, rs⟩ := r
        obtain ⟨u, fa, fy, fb, h1, rfl, h2, _⟩ := reps_split rs ey
        obtain ⟨vx, fx, hr, hx⟩ := rd_of h2 h
        refine ⟨vx, fx, hr, fun H' k => ⟨a, C, dx, _, u, rfl, by rw [k a List.mem_cons_self]; exact ha, io.cl, io.ok f (List.isSome_idxOf?.mp (by rw [ej]; rfl)), by rw [fld_look c.inj ej (by rw [rs.len, hl])]; exact h1, hx H' fun b hb => k b ?_⟩⟩
        exact List.mem_cons_of_mem _ (List.mem_append_right _ (List.mem_append_left _ hb))
      · cases h
    · cases h
/-- one place within an owned value -/
theorem focus {g : W → Option W} : ∀ {l : List Ac} {w w' : W} {v : V} {fp : List Addr}, Rep c F H w v fp → updP g l w = some w' →
    ∃ x x' vx f1 fx f2, RdP c H l v vx ∧ fp = f1 ++ (fx ++ f2) ∧ Rep c F H x vx fx ∧ g x = some x' ∧ ∀ F' H' fx', Same F F' → (∀ a, a ∈ f1 ∨ a ∈ f2 → H' a = H a) → Rep c F' H' x' vx fx' → Rep c F' H' w' v (f1 ++ (fx' ++ f2))
  | [], w, w', v, fp, r, h => by
    unfold updP at h
    exact ⟨w, w', v, [], fp, [], rfl, by simp, r, h, fun F' H' fx' _ _ r' => by simpa using r'⟩
  | .ix k :: l, w, w', v, fp, r, h => by
    cases k <;> first | (unfold updP at h; cases h; done) | skip
    cases w <;> first | (unfold updP at h; cases h; done) | skip
    rename_i i o ws
    cases o
    · unfold updP at h
      cases h
    unfold updP at h
    split at h
    · rename_i j ej
      split at h
      · rename_i y ey
        split at h
        · rename_i y' ey'
          cases h
          obtain ⟨a, vs, f0, rfl, ha, rfl, rs⟩ := r
          obtain ⟨u, fa, fy, fb, h1, rfl, h2, h3⟩ := reps_split rs ey
          obtain ⟨x, x', vx, f1, fx, f2, k1, rfl, k3, k4, k5⟩ := focus h2 ey'
          refine ⟨x, x', vx, a :: (fa ++ f1), fx, f2 ++ fb, ⟨a, vs, j, u, rfl, ha, by rw [rs.len]; exact ej, h1, k1⟩, by simp, k3, k4, fun F' H' fx' s k r' => ?_⟩
          refine ⟨a, vs, fa ++ ((f1 ++ (fx' ++ f2)) ++ fb), rfl, by rw [k a (.inl List.mem_cons_self)]; exact ha, by simp, ?_⟩
          have := h3 F' H' y' u _ s (fun b hb => k b (hb.elim (fun z => .inl (List.mem_cons_of_mem _ (List.mem_append_left _ z))) fun z => .inr (List.mem_append_right _ z))) (k5 F' H' fx' s (fun b hb => k b (hb.elim (fun z => .inl (List.mem_cons_of_mem _ (List.mem_append_right _ z))) fun z => .inr (List.mem_append_left _ z))) r')
          rw [getset h1] at this
          exact this
        · cases h
      · cases h
    · cases h
  | .fd f :: l, w, w', v, fp, r, h => by
    cases w <;> first | (unfold updP at h; cases h; done) | skip
    rename_i o C fs ws
    cases o
    · unfold updP at h
      cases h
    unfold updP at h
    split at h
    · rename_i j ej
      split at h
      · rename_i y ey
        split at h
        · rename_i y' ey'
          cases h
          obtain ⟨a, dx, vs, f0, rfl, ha, rfl, hl, io, rs⟩ := r
          obtain ⟨u, fa, fy, fb, h1, rfl, h2, h3⟩ := reps_split rs ey
          obtain ⟨x, x', vx, f1, fx, f2, k1, rfl, k3, k4, k5⟩ := focus h2 ey'
          refine ⟨x, x', vx, a :: (fa ++ f1), fx, f2 ++ fb, ⟨a, C, dx, _, u, rfl, ha, io.cl, io.ok f (List.isSome_idxOf?.mp (by rw [ej]; rfl)), by rw [fld_look c.inj ej (by rw [rs.len, hl])]; exact h1, k1⟩, by simp, k3, k4, fun F' H' fx' s k r' => ?_⟩
          refine ⟨a, dx, vs, fa ++ ((f1 ++ (fx' ++ f2)) ++ fb), rfl, by rw [k a (.inl List.mem_cons_self)]; exact ha, by simp, by rw [List.length_set]; exact hl, io, ?_⟩
          have := h3 F' H' y' u _ s (fun b hb => k b (hb.elim (fun z => .inl (List.mem_cons_of_mem _ (List.mem_append_left _ z))) fun z => .inr (List.mem_append_right _ z))) (k5 F' H' fx' s (fun b hb => k b (hb.elim (fun z => .inl (List.mem_cons_of_mem _ (List.mem_append_right _ z))) fun z => .inr (List.mem_append_left _ z))) r')
          rw [getset h1] at this
          exact this
        · cases h
      · cases h
    · cases h
end
/-! ### the expressions that name places -/
def mPa (p : Pl) (i : Nat) : Pa → Expr → Bool
  | .root, e => mVar p i e
  | .ix b q, e => match e with
    | .Subscript eo ei _ => goodH ei && (mPa p i b eo && cP p q ei)
    | _ => false
  | .fd b f, e => match e with
    | .Attribute eo y _ => decide (p.nm f = y) && (goodH eo && mPa p i b eo)
    | _ => false
def tPa (c : Cn) (i : Nat) (pa : Pa) : TE := fun σ H Q => ∃ F env fp fr l v0 x, Rel c F H env σ fp fr ∧ evPa env pa = some l ∧ σ[i]? = some (some v0) ∧ RdP c H l v0 x ∧ Q x H
section
variable {p : Pl} {c : Cn} {X : Cx}
theorem Pa_sound (x : XOk p c X) {i : Nat} : ∀ {pa : Pa} {e : Expr}, mPa p i pa e = true → PE X e (tPa c i pa)
  | .root, e, h => pe_mono (var_sound x h) fun σ H Q ⟨F, env, fp, fr, l, v0, y, R, ev, hv, rd, q⟩ => by
    unfold evPa at ev
    cases ev
    cases rd
    exact ⟨v0, hv, q⟩
  | .ix b q, e, h => by
    unfold mPa at h
    split at h
    · rename_i eo ei pos
      obtain ⟨h1, h2⟩ := and2 h
      obtain ⟨h2, h3⟩ := and2 h2
      refine pe_mono (pe_ix ix_list (Pa_sound x h2) ((P_sound x q).1 ei h3) (goodH_ix h1)) fun σ H Q ⟨F, env, fp, fr, l, v0, y, R, ev, hv, rd, qq⟩ => ?_
      unfold evPa at ev
      split at ev
      · rename_i lb w e1 e2
        cases ev
        obtain ⟨u, r1, r2⟩ := rd.app
        refine ⟨F, env, fp, fr, lb, v0, u, R, e1, hv, r1, F, env, fp, fr, w, R, e2, fun v fpw r => ?_⟩
        cases w <;> first | exact r2.elim | skip
        obtain ⟨a, vs, j, z, rfl, ha, ej, ez, e3⟩ := r2
        cases e3
        obtain ⟨rfl, _⟩ := r
        refine ⟨a, vs, _, _, rfl, rfl, SqL.of ha, ?_, qq⟩
        unfold atI
        rw [ixP_ixN ej]
        exact ez
      · cases ev
    · cases h
  | .fd b f, e, h => by
    unfold mPa at h
    split at h
    · rename_i eo y pos
      obtain ⟨h1, h2⟩ := and2 h
      obtain ⟨h2, h3⟩ := and2 h2
      have h1 := of_decide_eq_true h1
      rw [x.nm] at h1
      subst h1
      refine pe_mono (pe_fld (Pa_sound x h3) (goodH_attr h2)) fun σ H Q ⟨F, env, fp, fr, l, v0, y, R, ev, hv, rd, qq⟩ => ?_
      unfold evPa at ev
      split at ev
      · rename_i lb e1
        cases ev
        obtain ⟨u, r1, r2⟩ := rd.app
        obtain ⟨a, C, dx, fs, z, rfl, ha, oc, of, el, e3⟩ := r2
        cases e3
        exact ⟨F, env, fp, fr, lb, v0, _, R, e1, hv, r1, a, c.ca C, dx, fs, _, rfl, ha, by rw [x.K]; exact c.cls C oc, by rw [x.K]; exact c.noat C f of, el, qq⟩
      · cases ev
    · cases h
end
end Nb
end
section
set_option maxRecDepth 100000
namespace Nb
open PySem PySem.Spec PyProof.Rows L2
/-! ### writes -/
/-- what a write does at one object -/
def MutAt (c : Cn) (H : Hp) (a : Addr) (o' : HO) (vs : List V) : M → Prop
  | .append => ∃ xs y, vs = [y] ∧ H a = some (.lst xs) ∧ xs.length < sizeLine ∧ o' = .lst (xs ++ [y])
  | .insert => ∃ xs i y, vs = [.int i, y] ∧ H a = some (.lst xs) ∧ xs.length < sizeLine ∧ 0 ≤ i ∧ i < 2 ^ 63 ∧ o' = .lst (xs.take i.toNat ++ [y] ++ xs.drop i.toNat)
  | .seti => ∃ xs i j y, vs = [.int i, y] ∧ H a = some (.lst xs) ∧ ixN xs.length i = some j ∧ o' = .lst (xs.set j y)
  | .setf f => ∃ C dx fs y, vs = [y] ∧ H a = some (.ins (c.ca C) dx fs) ∧ c.okc C = true ∧ c.okf C f = true ∧ fs.length < 1000 ∧ o' = .ins (c.ca C) dx (putF (c.nm f) y fs)
section
variable {c : Cn} {F H : Hp}
theorem reps_cut : ∀ {ws : List W} {vs : List V} {f : List Addr} (n : Nat), Reps c F H ws vs f → ∃ fa fb, f = fa ++ fb ∧ Reps c F H (ws.take n) (vs.take n) fa ∧ Reps c F H (ws.drop n) (vs.drop n) fb
  | [], vs, f, n, r => by
    obtain ⟨rfl, rfl⟩ := r
    refine ⟨[], [], rfl, ?_, ?_⟩
    · rw [List.take_nil, List.take_nil]
      exact ⟨rfl, rfl⟩
    · rw [List.drop_nil, List.drop_nil]
      exact ⟨rfl, rfl⟩
  | w :: ws, vs, f, 0, r => ⟨[], f, rfl, ⟨rfl, rfl⟩, r⟩
  | w :: ws, vs, f, n + 1, r => by
    obtain ⟨v, t, f1, f2, rfl, rfl, r1, r2⟩ := r
    obtain ⟨fa, fb, rfl, h1, h2⟩ := reps_cut n r2
    exact ⟨f1 ++ fa, fb, by rw [List.append_assoc], ⟨v, _, f1, fa, rfl, rfl, r1, h1⟩, h2⟩
theorem putF_set {nm : Nat → Str} (inj : ∀ i j, nm i = nm j → i = j) {f : Nat} {y : V} : ∀ {fs : List Nat} {vs : List V} {j : Nat}, fs.idxOf? f = some j → vs.length = fs.length → putF (nm f) y ((fs.map nm).zip vs) = (fs.map nm).zip (vs.set j y)
  | [], _, _, h, _ => by cases h
  | g :: fs, [], _, _, l => by cases l
  | g :: fs, v :: vs, k, h, l => by
    rw [List.idxOf?_cons] at h
    show putF (nm f) y ((nm g, v) :: (fs.map nm).zip vs) = _
    unfold putF
    by_cases e : g = f
    · subst e
      simp only [beq_self_eq_true, if_true, Option.some.injEq] at h
      subst h
      rw [if_pos rfl]
      rfl
    · have e1 : (g == f) = false := beq_eq_false_iff_ne.mpr e
      rw [if_neg fun z => e (inj _ _ z)]
      rw [e1] at h
      cases q : fs.idxOf? f with
      | none =>
        rw [q] at h
        simp at h
      | some j =>
        rw [q] at h
        simp at h
        subst h
        rw [putF_set inj q (by simpa using l)]
        rfl
theorem putF_new {nm : Nat → Str} (inj : ∀ i j, nm i = nm j → i = j) {f : Nat} {y : V} : ∀ {fs : List Nat} {vs : List V}, fs.idxOf? f = none → vs.length = fs.length → putF (nm f) y ((fs.map nm).zip vs) = ((fs ++ [f]).map nm).zip (vs ++ [y])
  | [], [], _, _ => rfl
  | [], _ :: _, _, l => by cases l
  | g :: fs, [], _, l => by cases l
  | g :: fs, v :: vs, h, l => by
    rw [List.idxOf?_cons] at h
    show putF (nm f) y ((nm g, v) :: (fs.map nm).zip vs) = _
    unfold putF
    by_cases e : g = f
    · subst e
      simp at h
    · have e1 : (g == f) = false := beq_eq_false_iff_ne.mpr e
      rw [if_neg fun z => e (inj _ _ z)]
      rw [e1] at h
      have h : fs.idxOf? f = none := by simpa using h
      rw [putF_new inj h (by simpa using l)]
      rfl
theorem cnt0 {b : Addr} {l : List Addr} (h : b ∉ l) : l.count b = 0 := List.count_eq_zero.mpr h
/-- the object behind a write -/
theorem mut_obj {ok : Nat → Nat → Bool} (hok : ∀ C f, ok C f = true → c.okf C f = true) {m : M} {ws : List W} {vs : List V} {fpw : List Addr} {x x' : W} {vx : V} {fx : List Addr} (r : Rep c F H x vx fx) (rs : Reps c F H ws vs fpw) (e : mutF ok m ws x = some x') (nd : fx.Nodup) (dj : ∀ b ∈ fx, b ∉ fpw) :
    ∃ a o' fx', vx = .ref a ∧ a ∈ fx ∧ MutAt c H a o' vs m ∧ Rep c F (upd H a o') x' vx fx' ∧ ∀ b, fx'.count b ≤ fx.count b + fpw.count b := by
  cases m with
  | append =>
    rcases ws with _ | ⟨w, _ | ⟨w2, ws⟩⟩
    · cases e
    rotate_left
    · cases x <;> cases e
    cases x <;> first | (cases e; done) | skip
    rename_i o us
    cases o
    · cases e
    obtain ⟨h1, h2⟩ := guardO_inv (show guardO _ _ = some x' from e)
    cases h2
    have h1 := of_decide_eq_true h1
    obtain ⟨a, xs, f0, rfl, ha, rfl, ru⟩ := r
    obtain ⟨v, rv, rfl⟩ : ∃ v, Rep c F H w v fpw ∧ vs = [v] := by
      obtain ⟨v, t, g1, g2, rfl, rfl, r1, rfl, rfl⟩ := rs
      exact ⟨v, by simpa using r1, rfl⟩
    obtain ⟨na, n0⟩ := List.nodup_cons.mp nd
    refine ⟨a, .lst (xs ++ [v]), a :: (f0 ++ fpw), rfl, List.mem_cons_self, ⟨xs, v, rfl, ha, ?_, rfl⟩, ⟨a, _, _, rfl, upd_same, rfl, reps_app (ru.fr (Same.refl _) fun b hb => upd_ne fun z => na (z ▸ hb)) (rep1 (rv.fr (Same.refl _) fun b hb => upd_ne fun z => dj a List.mem_cons_self (z ▸ hb)))⟩, fun b => ?_⟩
    · rw [ru.len, sizeLine_eq]
      omega
    · simp only [List.count_cons, List.count_append]
      omega
  | insert =>
    rcases ws with _ | ⟨w, _ | ⟨w2, _ | ⟨w3, ws⟩⟩⟩
    · cases e
    · cases w <;> cases x <;> cases e
    rotate_left
    · cases w <;> cases x <;> cases e
    cases w <;> first | (cases x <;> cases e; done) | skip
    cases x <;> first | (cases e; done) | skip
    rename_i i o us
    cases o
    · cases e
    obtain ⟨h1, h2⟩ := guardO_inv (show guardO _ _ = some x' from e)
    cases h2
    obtain ⟨h1, h2⟩ := and2 h1
    obtain ⟨h2, h3⟩ := and2 h2
    have h1 := of_decide_eq_true h1
    have h2 := of_decide_eq_true h2
    have h3 := of_decide_eq_true h3
    obtain ⟨a, xs, f0, rfl, ha, rfl, ru⟩ := r
    obtain ⟨v, rv, rfl⟩ : ∃ v, Rep c F H w2 v fpw ∧ vs = [.int i, v] := by
      obtain ⟨v, t, g1, g2, rfl, rfl, ⟨rfl, rfl⟩, v2, t2, g3, g4, rfl, rfl, r2, rfl, rfl⟩ := rs
      exact ⟨v2, by simpa using r2, rfl⟩
    obtain ⟨na, n0⟩ := List.nodup_cons.mp nd
    obtain ⟨fa, fb, rfl, ra, rb⟩ := reps_cut i.toNat ru
    have fr0 : ∀ o b, b ∈ fa ++ fb → upd H a o b = H b := fun o b hb => upd_ne fun z => na (z ▸ hb)
    refine ⟨a, .lst (xs.take i.toNat ++ [v] ++ xs.drop i.toNat), a :: (fa ++ (fpw ++ fb)), rfl, List.mem_cons_self, ⟨xs, i, v, rfl, ha, ?_, h1, by omega, rfl⟩, ⟨a, _, _, rfl, upd_same, rfl, ?_⟩, fun b => ?_⟩
    · rw [ru.len, sizeLine_eq]
      omega
    · rw [List.append_assoc]
      exact reps_app (ra.fr (Same.refl _) fun b hb => fr0 _ b (List.mem_append_left _ hb)) (reps_app (rep1 (rv.fr (Same.refl _) fun b hb => upd_ne fun z => dj a List.mem_cons_self (z ▸ hb))) (rb.fr (Same.refl _) fun b hb => fr0 _ b (List.mem_append_right _ hb)))
    · simp only [List.count_cons, List.count_append]
      omega
  | seti =>
    rcases ws with _ | ⟨w, _ | ⟨w2, _ | ⟨w3, ws⟩⟩⟩
    · cases e
    · cases w <;> cases x <;> cases e
    rotate_left
    · cases w <;> cases x <;> cases e
    cases w <;> first | (cases x <;> cases e; done) | skip
    cases x <;> first | (cases e; done) | skip
    rename_i i o us
    cases o
    · cases e
    have e : (match ixP us.length i with | some j => some (W.lst true (us.set j w2)) | none => none) = some x' := e
    split at e
    rotate_left
    · cases e
    rename_i j ej
    cases e
    obtain ⟨a, xs, f0, rfl, ha, rfl, ru⟩ := r
    obtain ⟨v, rv, rfl⟩ : ∃ v, Rep c F H w2 v fpw ∧ vs = [.int i, v] := by
      obtain ⟨v, t, g1, g2, rfl, rfl, ⟨rfl, rfl⟩, v2, t2, g3, g4, rfl, rfl, r2, rfl, rfl⟩ := rs
      exact ⟨v2, by simpa using r2, rfl⟩
    obtain ⟨na, n0⟩ := List.nodup_cons.mp nd
    have hj : j < us.length := (ixN_seq (ixP_ixN ej)).2.1
    obtain ⟨u, fa, fy, fb, h1, rfl, h2, h3⟩ := reps_split ru (List.getElem?_eq_getElem hj)
    refine ⟨a, .lst (xs.set j v), a :: (fa ++ (fpw ++ fb)), rfl, List.mem_cons_self, ⟨xs, i, j, v, rfl, ha, by rw [ru.len]; exact ixP_ixN ej, rfl⟩, ⟨a, _, _, rfl, upd_same, rfl, h3 F _ w2 v fpw (Same.refl _) (fun b hb => upd_ne fun z => na ?_) (rv.fr (Same.refl _) fun b hb => upd_ne fun z => dj a List.mem_cons_self (z ▸ hb))⟩, fun b => ?_⟩
    · rw [← z]
      exact hb.elim (fun q => List.mem_append_left _ q) fun q => List.mem_append_right _ (List.mem_append_right _ q)
    · simp only [List.count_cons, List.count_append]
      omega
  | setf f =>
    rcases ws with _ | ⟨w, _ | ⟨w2, ws⟩⟩
    · cases e
    rotate_left
    · cases x <;> cases e
    cases x <;> first | (cases e; done) | skip
    rename_i o C fs us
    cases o
    · cases e
    obtain ⟨h1, h2⟩ := guardO_inv (show guardO _ _ = some x' from e)
    obtain ⟨k1, k2⟩ := and2 h1
    have k2 := of_decide_eq_true k2
    have k1 := hok _ _ k1
    obtain ⟨a, dx, xs, f0, rfl, ha, rfl, hl, io, ru⟩ := r
    obtain ⟨v, rv, rfl⟩ : ∃ v, Rep c F H w v fpw ∧ vs = [v] := by
      obtain ⟨v, t, g1, g2, rfl, rfl, r1, rfl, rfl⟩ := rs
      exact ⟨v, by simpa using r1, rfl⟩
    obtain ⟨na, n0⟩ := List.nodup_cons.mp nd
    have hlx : xs.length = fs.length := by rw [ru.len, hl]
    have hsz : ((fs.map c.nm).zip xs).length < 1000 := by
      rw [List.length_zip, List.length_map]
      omega
    split at h2
    · rename_i j ej
      cases h2
      have hj : j < us.length := by
        rw [← hl]
        have := List.idxOf?_eq_some_iff.mp ej
        exact this.1
      obtain ⟨u, fa, fy, fb, h1, rfl, h2, h3⟩ := reps_split ru (List.getElem?_eq_getElem hj)
      refine ⟨a, .ins (c.ca C) dx (putF (c.nm f) v ((fs.map c.nm).zip xs)), a :: (fa ++ (fpw ++ fb)), rfl, List.mem_cons_self, ⟨C, dx, _, v, rfl, ha, io.cl, k1, hsz, rfl⟩, ⟨a, dx, xs.set j v, _, rfl, ?_, rfl, by rw [List.length_set]; exact hl, io, h3 F _ w v fpw (Same.refl _) (fun b hb => upd_ne fun z => na ?_) (rv.fr (Same.refl _) fun b hb => upd_ne fun z => dj a List.mem_cons_self (z ▸ hb))⟩, fun b => ?_⟩
      · rw [upd_same, putF_set c.inj ej hlx]
      · rw [← z]
        exact hb.elim (fun q => List.mem_append_left _ q) fun q => List.mem_append_right _ (List.mem_append_right _ q)
      · simp only [List.count_cons, List.count_append]
        omega
    · rename_i ej
      cases h2
      refine ⟨a, .ins (c.ca C) dx (putF (c.nm f) v ((fs.map c.nm).zip xs)), a :: (f0 ++ fpw), rfl, List.mem_cons_self, ⟨C, dx, _, v, rfl, ha, io.cl, k1, hsz, rfl⟩, ⟨a, dx, xs ++ [v], _, rfl, ?_, rfl, by simp [hl], ⟨io.cl, ?_, fun g hg => ?_⟩, reps_app (ru.fr (Same.refl _) fun b hb => upd_ne fun z => na (z ▸ hb)) (rep1 (rv.fr (Same.refl _) fun b hb => upd_ne fun z => dj a List.mem_cons_self (z ▸ hb)))⟩, fun b => ?_⟩
      · rw [upd_same, putF_new c.inj ej hlx]
      · rw [List.nodup_append]
        refine ⟨io.nd, by simp, fun b hb d hd e => ?_⟩
        have hd : d = f := by simpa using hd
        rw [e, hd] at hb
        exact (List.idxOf?_eq_none_iff.mp ej) hb
      · rcases List.mem_append.mp hg with hg | hg
        · exact io.ok g hg
        · have : g = f := by simpa using hg
          rw [this]
          exact k1
      · simp only [List.count_cons, List.count_append]
        omega
end
section
variable {c : Cn} {F H : Hp} {env : Env} {σ : L2.St} {fp : Nat → List Addr} {fr : Addr → Prop}
theorem Rel.mut {i : Nat} {a : Addr} {o' : HO} {w1 : W} {v0 : V} {g fpw : List Addr} (R : Rel c F H env σ fp (fun a => a ∈ fpw ∨ fr a)) (nd : fpw.Nodup) (nf : ∀ a ∈ fpw, ¬ fr a) (hv : σ[i]? = some (some v0)) (hi : i < env.length) (ha : a ∈ fp i) (r1 : Rep c F (upd H a o') w1 v0 g)
    (hc : ∀ b, g.count b ≤ (fp i).count b + fpw.count b) : Rel c F (upd H a o') (env.set i (some w1)) σ (fset fp i g) fr := by
  obtain ⟨hF, _, hnf⟩ := R.own i a ha
  have ex : ∀ {b}, (∃ o, H b = some o) → ∃ o, upd H a o' b = some o := fun {b} ⟨o, e⟩ => by
    by_cases z : b = a
    · rw [z]
      exact ⟨_, upd_same⟩
    · rw [upd_ne z]
      exact ⟨o, e⟩
  have hg : ∀ b ∈ g, b ∈ fp i ∨ b ∈ fpw := fun b hb => by
    by_cases q : b ∈ fp i
    · exact .inl q
    · right
      have h1 := hc b
      have h2 := List.count_pos_iff.mpr hb
      rw [cnt0 q] at h1
      exact List.count_pos_iff.mp (by omega)
  refine ⟨fun b u e => ?_, by rw [List.length_set]; exact R.len, fun j u e => ?_, fun j => ?_, fun j k n b hb hb2 => ?_, fun j b hb => ?_, fun b hb => ?_⟩
  · have : b ≠ a := fun z => by
      rw [z, hF] at e
      cases e
    rw [upd_ne this]
    exact R.same _ _ e
  · by_cases q : j = i
    · subst q
      rw [get_set_self hi] at e
      cases e
      rw [fset_self]
      exact ⟨v0, hv, r1⟩
    · rw [get_set_ne q] at e
      rw [fset_ne q]
      obtain ⟨v, h1, h2⟩ := R.slot j u e
      exact ⟨v, h1, h2.fr (Same.refl _) fun b hb => upd_ne fun z => R.dj j i q b hb (z ▸ ha)⟩
  · by_cases q : j = i
    · rw [q, fset_self, List.nodup_iff_count]
      intro b
      have h1 := hc b
      have h2 := List.nodup_iff_count.mp (R.nd i) b
      have h3 := List.nodup_iff_count.mp nd b
      by_cases z : b ∈ fp i
      · have : b ∉ fpw := fun y => (R.own i b z).2.2 (.inl y)
        rw [cnt0 this] at h1
        omega
      · rw [cnt0 z] at h1
        omega
    · rw [fset_ne q]
      exact R.nd j
  · have key : ∀ {k}, k ≠ i → b ∈ fp k → b ∈ g → False := fun {k} n h1 h2 => (hg b h2).elim (fun z => R.dj k i n b h1 z) fun z => (R.own k b h1).2.2 (.inl z)
    by_cases q : j = i
    · rw [q, fset_self] at hb
      have hk : k ≠ i := fun z => n (q.trans z.symm)
      rw [fset_ne hk] at hb2
      exact key hk hb2 hb
    · rw [fset_ne q] at hb
      by_cases q2 : k = i
      · rw [q2, fset_self] at hb2
        exact key q hb hb2
      · rw [fset_ne q2] at hb2
        exact R.dj j k n b hb hb2
  · by_cases q : j = i
    · rw [q, fset_self] at hb
      rcases hg b hb with z | z
      · obtain ⟨h1, h2, h3⟩ := R.own i b z
        exact ⟨h1, ex h2, fun y => h3 (.inr y)⟩
      · obtain ⟨h1, h2⟩ := R.frm b (.inl z)
        exact ⟨h1, ex h2, nf b z⟩
    · rw [fset_ne q] at hb
      obtain ⟨h1, h2, h3⟩ := R.own j b hb
      exact ⟨h1, ex h2, fun y => h3 (.inr y)⟩
  · obtain ⟨h1, h2⟩ := R.frm b (.inr hb)
    exact ⟨h1, ex h2⟩
/-- a write through slot i -/
theorem mut_fin {ok : Nat → Nat → Bool} (hok : ∀ C f, ok C f = true → c.okf C f = true) {m : M} {ws : List W} {vs : List V} {fpw : List Addr} {i : Nat} {l : List Ac} {w w1 : W} {v0 : V} (R : Rel c F H env σ fp (fun a => a ∈ fpw ∨ fr a)) (nd : fpw.Nodup) (nf : ∀ a ∈ fpw, ¬ fr a) (rs : Reps c F H ws vs fpw)
    (hv : σ[i]? = some (some v0)) (e1 : get env i = some w) (e2 : updP (mutF ok m ws) l w = some w1) :
    ∃ a o' fp', RdP c H l v0 (.ref a) ∧ MutAt c H a o' vs m ∧ Rel c F (upd H a o') (env.set i (some w1)) σ fp' fr ∧ ∀ b, fr b → upd H a o' b = H b := by
  obtain ⟨v0', hv', r0⟩ := R.slot i w e1
  rw [hv] at hv'
  cases hv'
  obtain ⟨x, x', vx, f1, fx, f2, k1, k2, k3, k4, k5⟩ := focus r0 e2
  have hn := R.nd i
  rw [k2] at hn
  obtain ⟨n1, n2, n3⟩ := List.nodup_append.mp hn
  obtain ⟨n4, n5, n6⟩ := List.nodup_append.mp n2
  have hmem : ∀ b, b ∈ fx → b ∈ fp i := fun b hb => by
    rw [k2]
    exact List.mem_append_right _ (List.mem_append_left _ hb)
  obtain ⟨a, o', fx', rfl, ha, hm, hr, hc⟩ := mut_obj hok k3 rs k4 n4 fun b hb z => (R.own i b (hmem b hb)).2.2 (.inl z)
  have r1 := k5 F (upd H a o') fx' (Same.refl _) (fun b hb => upd_ne fun z => ?_) hr
  · refine ⟨a, o', _, k1, hm, R.mut nd nf hv (get_lt e1) (hmem a ha) r1 fun b => ?_, fun b hb => upd_ne fun z => (R.own i a (hmem a ha)).2.2 (.inr (z ▸ hb))⟩
    have := hc b
    rw [k2]
    simp only [List.count_append]
    omega
  · subst z
    rcases hb with hb | hb
    · exact n3 b hb b (List.mem_append_left _ ha) rfl
    · exact n6 b ha b hb rfl
end
end Nb
end
section
set_option maxRecDepth 100000
namespace Nb
open PySem PySem.Spec PyProof.Rows L2
/-! ### statements: their readings -/
structure Ctr (n : Nat) (F H : Hp) (fr : Addr → Prop) (σ : L2.St) (F' H' : Hp) (σ' : L2.St) : Prop where
  ext : Same F F'
  kf : ∀ a, fr a → H' a = H a
  fx : ∀ i, i < n → σ'[i]? = σ[i]?
theorem Ctr.refl {n : Nat} {F H : Hp} {fr : Addr → Prop} {σ : L2.St} : Ctr n F H fr σ F H σ := ⟨Same.refl _, fun _ _ => rfl, fun _ _ => rfl⟩
theorem Ctr.trans {n : Nat} {F H F1 H1 F2 H2 : Hp} {fr : Addr → Prop} {σ σ1 σ2 : L2.St} (a : Ctr n F H fr σ F1 H1 σ1) (b : Ctr n F1 H1 fr σ1 F2 H2 σ2) : Ctr n F H fr σ F2 H2 σ2 :=
  ⟨a.ext.trans b.ext, fun x hx => (b.kf x hx).trans (a.kf x hx), fun i hi => (b.fx i hi).trans (a.fx i hi)⟩
theorem Aft.ctr {n : Nat} {F H F' H' : Hp} {fp fp' : Nat → List Addr} {fr : Addr → Prop} {mu : Nat → Bool} {σ : L2.St} (A : Aft F H fp fr mu F' H' fp') : Ctr n F H fr σ F' H' σ := ⟨A.ext, A.kf, fun _ _ => rfl⟩
def KN (c : Cn) (n : Nat) (F H : Hp) (fr : Addr → Prop) (σ : L2.St) (env' : Env) (k : L2.St → Hp → Prop) : Prop :=
  ∀ σ' H' F' fp', Ctr n F H fr σ F' H' σ' → Rel c F' H' env' σ' fp' fr → k σ' H'
def KR (c : Cn) (n : Nat) (F H : Hp) (fr : Addr → Prop) (σ : L2.St) (w : W) (env' : Env) (k : VK) : Prop :=
  ∀ v σ' H' F' fp' fpw, Ctr n F H fr σ F' H' σ' → Rel c F' H' env' σ' fp' (fun a => a ∈ fpw ∨ fr a) → fpw.Nodup → (∀ a ∈ fpw, ¬ fr a) → Rep c F' H' w v fpw → k v H'
def KS (c : Cn) (n : Nat) (F H : Hp) (fr : Addr → Prop) (σ : L2.St) (fl : Fl) (env' : Env) (D : Ends) : Prop := match fl with
  | .next => KN c n F H fr σ env' D.nx
  | .brk => KN c n F H fr σ env' D.bk
  | .cont => KN c n F H fr σ env' D.ct
  | .ret w => KR c n F H fr σ w env' D.rt
def tS (c : Cn) (T : Tab) (call make : Cal) (n : Nat) (s : S) : TS := fun D σ H => ∃ F env fp fr fl env', Rel c F H env σ fp fr ∧ evS T call make n s env = some (fl, env') ∧ KS c n F H fr σ fl env' D
section
variable {c : Cn} {T : Tab} {call make : Cal} {n : Nat} {F H F1 H1 : Hp} {fr : Addr → Prop} {σ σ1 : L2.St} {env env' : Env} {fp fp1 : Nat → List Addr}
theorem KN.after {k : L2.St → Hp → Prop} (h : KN c n F H fr σ env' k) (a : Ctr n F H fr σ F1 H1 σ1) : KN c n F1 H1 fr σ1 env' k := fun σ' H' F' fp' b R => h σ' H' F' fp' (a.trans b) R
theorem KR.after {w : W} {k : VK} (h : KR c n F H fr σ w env' k) (a : Ctr n F H fr σ F1 H1 σ1) : KR c n F1 H1 fr σ1 w env' k := fun v σ' H' F' fp' fpw b R => h v σ' H' F' fp' fpw (a.trans b) R
theorem KS.after {fl : Fl} {D : Ends} (h : KS c n F H fr σ fl env' D) (a : Ctr n F H fr σ F1 H1 σ1) : KS c n F1 H1 fr σ1 fl env' D := by
  cases fl with
  | next => exact KN.after h a
  | brk => exact KN.after h a
  | cont => exact KN.after h a
  | ret w => exact KR.after h a
end
/-! ### the checker of statements -/
def noComp : Expr → Bool
  | .ListComp _ _ _ _ => false
  | .SetComp _ _ _ _ => false
  | .DictComp _ _ _ _ _ => false
  | _ => true
theorem noComp_ok {e : Expr} {t : Option Expr} {l : Nat} {env : PySem.Env} (h : noComp e = true) : swapsWith e t l env = pure false := by
  cases e <;> first | rfl | (cases h; done)
theorem noCompS {e tg : Expr} {l : Nat} {env : PySem.Env} (h : noComp e = true) : swapsWithSole [tg] e l env = pure false := by
  cases e <;> first | rfl | (cases h; done)
def isTupE : Expr → Bool
  | .Tuple _ _ _ => true
  | _ => false
def plainTg : Expr → Expr → Bool
  | .Name _ _, _ => true
  | .Tuple _ _ _, e => !isTupE e
  | _, _ => false
theorem plainTg_ok {tg e : Expr} {env : PySem.Env} (h : plainTg tg e = true) : swappedStores [tg] e env = pure none := by
  cases tg <;> first | rfl | (cases h; done) | skip
  cases e <;> first | rfl | (cases h; done)
/-- name = [..] that is made in place -/
def swB (p : Pl) (py : Pos) (y : Str) (e : Expr) : Bool := match e with
  | .ListComp _ _ scope pos => (match p.sc.kind with
    | .function => true
    | _ => false) && ((match p.sc.names.lookup y with
    | some .local => true
    | _ => false) && ((py.line == pos.line) && !(scope.names.any fun x => x.1 == y && (x.2 == .local || x.2 == .cell))))
  | _ => false
def isNonE : E → Bool
  | .pv (.cst .non) => true
  | _ => false
def augO : O → Option Operator
  | .add => some .Add
  | .sub => some .Sub
  | _ => none
def mBm : M → Str → Bool
  | .append, y => y == ("append" : Str)
  | .insert, y => y == ("insert" : Str)
  | _, _ => false
def consE : List Expr → Bool
  | _ :: _ => true
  | [] => false
def cAsg (p : Pl) (g : G) (a : E) : Expr → Expr → Bool
  | tg, e => match noComp e with
    | true => plainTg tg e && (nostar tg && (cG p g tg && cE a p e))
    | false => match g, tg, a with
      | .var i, .Name y py, .lcp _ _ _ _ _ _ => decide (p.N[i]? = some y) && (swB p py y e && cE a p e)
      | _, _, _ => false
def isDoc : Expr → Bool
  | .Constant (.str _) _ _ => true
  | _ => false
mutual
def cS (p : Pl) : S → Stmt → Bool
  | .pass, st => match st with
    | .Pass _ => true
    | .Expr e _ => isDoc e
    | _ => false
  | .brk, st => match st with
    | .Break _ => true
    | _ => false
  | .cont, st => match st with
    | .Continue _ => true
    | _ => false
  | .stuck, _ => true
  | .expr a, st => match st with
    | .Expr e _ => noComp e && cE a p e
    | _ => false
  | .asg g a, st => match st with
    | .Assign [tg] e _ => cAsg p g a tg e
    | _ => false
  | .ret a, st => match st with
    | .Return (some e) _ => cE a p e
    | .Return none _ => isNonE a
    | _ => false
  | .iff t a b, st => match st with
    | .If e as bs _ => okE t && (cE t p e && (cSs p a as && cSs p b bs))
    | _ => false
  | .whl t b, st => match st with
    | .While e bs [] _ => okE t && (cE t p e && cSs p b bs)
    | _ => false
  | .for_ k g it b, st => match st with
    | .For tg iter bs [] _ => match mIt p tg k iter with
      | some es => seqOk k it && (cL it p es && (cG p g tg && cSs p b bs))
      | none => false
    | _ => false
  | .aug o i a, st => match st with
    | .AugAssign (.Name y _) op e _ => decide (augO o = some op) && (decide (p.N[i]? = some y) && (locB p y && cE a p e))
    | _ => false
  | .mut m i pa as, st => match st with
    | .Expr (.Call (.Attribute o y apos) es [] pos) _ => mBm m y && (goodH o && ((apos.endLine == pos.line) && (decide (es.length < 30) && (consE es && (goodA es && (mPa p i pa o && (cL as p es && !muE as i)))))))
    | _ => false
  | .seti i pa k a, st => match st with
    | .Assign [.Subscript o kk _] e _ => noComp e && (goodH kk && (mPa p i pa o && (cP p k kk && cE a p e)))
    | _ => false
  | .setf i pa f a, st => match st with
    | .Assign [.Attribute o y _] e _ => noComp e && (decide (p.nm f = y) && (mPa p i pa o && cE a p e))
    | _ => false
  | .nil, _ => false
  | .cons _ _, _ => false
def cSs (p : Pl) : S → List Stmt → Bool
  | .nil, [] => true
  | .stuck, _ => true
  | .cons a r, st :: sts => cS p a st && cSs p r sts
  | _, _ => false
end
end Nb
end
section
set_option maxRecDepth 100000
namespace Nb
open PySem PySem.Spec PyProof.Rows L2
theorem asg_fix {n : Nat} : ∀ {g : G} {ws : List W} {env env' : Env}, asg n g ws env = some env' → ∀ i, i < n → inG g i = false
  | .var j, ws, env, env', h, i, hi => by
    rcases ws with _ | ⟨w, _ | ⟨w2, ws⟩⟩
    · unfold asg at h
      cases h
    · unfold asg at h
      obtain ⟨h1, _⟩ := guardO_inv h
      have h1 := of_decide_eq_true (and2 h1).1
      show (j == i) = false
      exact beq_eq_false_iff_ne.mpr (by omega)
    · unfold asg at h
      cases h
  | .tup g, ws, env, env', h, i, hi => by
    rcases ws with _ | ⟨w, _ | ⟨w2, ws⟩⟩
    · unfold asg at h
      cases h
    · cases w <;> first | (unfold asg at h; cases h; done) | skip
      unfold asg at h
      exact asg_fix (g := g) h i hi
    · cases w <;> (unfold asg at h; cases h)
  | .nil, ws, env, env', h, i, hi => rfl
  | .cons g r, ws, env, env', h, i, hi => by
    cases ws with
    | nil =>
      unfold asg at h
      cases h
    | cons w ws =>
      unfold asg at h
      split at h
      · rename_i env1 e1
        show (inG g i || inG r i) = false
        rw [asg_fix e1 i hi, asg_fix h i hi] <;> rfl
      · cases h
section
variable {p : Pl} {c : Cn} {X : Cx} {T : Tab} {call make : Cal} {n : Nat}
theorem s_next {st : Stmt} {s : S} (h : PS X st tNext) (hs : ∀ env, evS T call make n s env = some (.next, env)) : PS X st (tS c T call make n s) :=
  ps_mono h fun D σ H ⟨F, env, fp, fr, fl, env', R, ev, k⟩ => by
    rw [hs] at ev
    cases ev
    exact k σ H F fp Ctr.refl R
theorem s_asg {g : G} {a : E} {st : Stmt} (h : PS X st (tAsg (tE c T call make a) (tG c n g))) : PS X st (tS c T call make n (.asg g a)) :=
  ps_mono h fun D σ H ⟨F, env, fp, fr, fl, env', R, ev, k⟩ => by
    unfold evS at ev
    split at ev
    · rename_i w env1 e1
      obtain ⟨env2, e2, e3⟩ := Option.map_eq_some_iff.mp ev
      cases e3
      exact ⟨F, env, fp, fr, w, env1, R, e1, fun v H1 F1 fp1 f1 A1 R1 n1 d1 r1 => ⟨F1, env1, fp1, fr, w, f1, env', R1, n1, d1, r1, e2, fun σ2 fp2 R2 kp => k σ2 H1 F1 fp2 ⟨A1.ext, A1.kf, fun i hi => kp.sl i (asg_fix e2 i hi)⟩ R2⟩⟩
    · cases ev
theorem s_cons {a r : S} {st : Stmt} {sts : List Stmt} (ha : PS X st (tS c T call make n a)) (hr : PSs X sts (tS c T call make n r)) : PSs X (st :: sts) (tS c T call make n (.cons a r)) :=
  pss_mono (pss_cons ha hr) fun D σ H ⟨F, env, fp, fr, fl, env', R, ev, k⟩ => by
    unfold evS at ev
    split at ev
    · rename_i env1 e1
      exact ⟨F, env, fp, fr, .next, env1, R, e1, fun σ' H' F' fp' ct R' => ⟨F', env1, fp', fr, fl, env', R', ev, k.after ct⟩⟩
    · rename_i hn
      refine ⟨F, env, fp, fr, fl, env', R, ev, ?_⟩
      cases fl with
      | next => exact (hn _ ev).elim
      | brk => exact k
      | cont => exact k
      | ret w => exact k
theorem s_nil : PSs X [] (tS c T call make n .nil) :=
  pss_mono pss_nil fun D σ H ⟨F, env, fp, fr, fl, env', R, ev, k⟩ => by
    unfold evS at ev
    cases ev
    exact k σ H F fp Ctr.refl R
theorem s_if {t : E} {a b : S} {e : Expr} {as bs : List Stmt} {pos : Pos} (ht : PT X e (tET c T call make t)) (ha : PSs X as (tS c T call make n a)) (hb : PSs X bs (tS c T call make n b)) : PS X (.If e as bs pos) (tS c T call make n (.iff t a b)) :=
  ps_mono (ps_if ht ha hb) fun D σ H ⟨F, env, fp, fr, fl, env', R, ev, k⟩ => by
    unfold evS at ev
    split at ev
    · rename_i env1 e1
      exact ⟨F, env, fp, fr, true, env1, R, e1, fun H1 F1 fp1 A1 R1 => iteT ⟨F1, env1, fp1, fr, fl, env', R1, ev, k.after A1.ctr⟩⟩
    · rename_i env1 e1
      exact ⟨F, env, fp, fr, false, env1, R, e1, fun H1 F1 fp1 A1 R1 => iteF ⟨F1, env1, fp1, fr, fl, env', R1, ev, k.after A1.ctr⟩⟩
    · cases ev
theorem loopW_step {test : Env → Option (W × Env)} {body : Env → Rs} {m : Nat} {env : Env} {r : Fl × Env} (h : loopW test body m env = some r) :
    ∃ m', m = m' + 1 ∧ ∃ b env1, test env = some (.bl b, env1) ∧ ((b = false ∧ r = (.next, env1)) ∨ (b = true ∧ ∃ fl env2, body env1 = some (fl, env2) ∧
      (((fl = .next ∨ fl = .cont) ∧ loopW test body m' env2 = some r) ∨ (fl = .brk ∧ r = (.next, env2)) ∨ ∃ w, fl = .ret w ∧ r = (.ret w, env2)))) := by
  cases m with
  | zero =>
    unfold loopW at h
    cases h
  | succ m =>
    refine ⟨m, rfl, ?_⟩
    unfold loopW at h
    split at h
    · rename_i env1 e1
      refine ⟨true, env1, e1, .inr ⟨rfl, ?_⟩⟩
      split at h
      · rename_i env2 e2
        exact ⟨_, env2, e2, .inl ⟨.inl rfl, h⟩⟩
      · rename_i env2 e2
        exact ⟨_, env2, e2, .inl ⟨.inr rfl, h⟩⟩
      · rename_i env2 e2
        cases h
        exact ⟨_, env2, e2, .inr (.inl ⟨rfl, rfl⟩)⟩
      · rename_i w env2 e2
        cases h
        exact ⟨_, env2, e2, .inr (.inr ⟨w, rfl, rfl⟩)⟩
      · cases h
    · rename_i env1 e1
      cases h
      exact ⟨false, env1, e1, .inl ⟨rfl, rfl⟩⟩
    · cases h
theorem s_whl (hp : PassesOwn (model X.prog X.w) X.A X.env X.xe) {t : E} {b : S} {e : Expr} {bs : List Stmt} {pos : Pos} (ht : PT X e (tET c T call make t)) (hb : PSs X bs (tS c T call make n b)) : PS X (.While e bs [] pos) (tS c T call make n (.whl t b)) :=
  ps_mono (ps_while hp ht hb) fun D σ H ⟨F, env, fp, fr, fl, env', R, ev, k⟩ => by
    unfold evS at ev
    refine ⟨fun m σ2 H2 => ∃ F2 env2 fp2, Ctr n F H fr σ F2 H2 σ2 ∧ Rel c F2 H2 env2 σ2 fp2 fr ∧ loopW (evE T call make t) (evS T call make n b) m env2 = some (fl, env'), ⟨T.fuel, F, env, fp, Ctr.refl, R, ev⟩, ?_⟩
    rintro m σ2 H2 ⟨F2, env2, fp2, ct, R2, e2⟩
    obtain ⟨m', rfl, bb, env3, et, hcase⟩ := loopW_step e2
    refine ⟨F2, env2, fp2, fr, bb, env3, R2, et, fun H3 F3 fp3 A3 R3 => ?_⟩
    rcases hcase with ⟨rfl, hr⟩ | ⟨rfl, fl2, env4, eb, hcase⟩
    · cases hr
      exact iteF (k σ2 H3 F3 fp3 (ct.trans A3.ctr) R3)
    · refine iteT ⟨fun σ' H' => ∃ m2, m2 < m' + 1 ∧ ∃ F2 env2 fp2, Ctr n F H fr σ F2 H' σ' ∧ Rel c F2 H' env2 σ' fp2 fr ∧ loopW (evE T call make t) (evS T call make n b) m2 env2 = some (fl, env'), fun _ _ h => h, F3, env3, fp3, fr, fl2, env4, R3, eb, ?_⟩
      rcases hcase with ⟨hf, e5⟩ | ⟨rfl, hr⟩ | ⟨w, rfl, hr⟩
      · have hN : KN c n F3 H3 fr σ2 env4 (fun σ' H' => ∃ m2, m2 < m' + 1 ∧ ∃ F2 env2 fp2, Ctr n F H fr σ F2 H' σ' ∧ Rel c F2 H' env2 σ' fp2 fr ∧ loopW (evE T call make t) (evS T call make n b) m2 env2 = some (fl, env')) :=
          fun σ' H' F' fp' ct' R' => ⟨m', Nat.lt_succ_self _, F', env4, fp', ct.trans (A3.ctr.trans ct'), R', e5⟩
        rcases hf with rfl | rfl
        · exact hN
        · exact hN
      · cases hr
        exact KN.after k (ct.trans A3.ctr)
      · cases hr
        exact KR.after k (ct.trans A3.ctr)
theorem loopF_nil {bind : W → Env → Option Env} {body : Env → Rs} {env : Env} {r : Fl × Env} (h : loopF bind body [] env = some r) : r = (.next, env) := by
  unfold loopF at h
  cases h
  rfl
theorem loopF_step {bind : W → Env → Option Env} {body : Env → Rs} {x : W} {xs : List W} {env : Env} {r : Fl × Env} (h : loopF bind body (x :: xs) env = some r) :
    ∃ env1 fl env2, bind x env = some env1 ∧ body env1 = some (fl, env2) ∧
      (((fl = .next ∨ fl = .cont) ∧ loopF bind body xs env2 = some r) ∨ (fl = .brk ∧ r = (.next, env2)) ∨ ∃ w, fl = .ret w ∧ r = (.ret w, env2)) := by
  unfold loopF at h
  split at h
  · rename_i env1 e1
    split at h
    · rename_i env2 e2
      exact ⟨env1, _, env2, e1, e2, .inl ⟨.inl rfl, h⟩⟩
    · rename_i env2 e2
      exact ⟨env1, _, env2, e1, e2, .inl ⟨.inr rfl, h⟩⟩
    · rename_i env2 e2
      cases h
      exact ⟨env1, _, env2, e1, e2, .inr (.inl ⟨rfl, rfl⟩)⟩
    · rename_i w env2 e2
      cases h
      exact ⟨env1, _, env2, e1, e2, .inr (.inr ⟨w, rfl, rfl⟩)⟩
    · cases h
  · cases h
theorem s_for (hp : PassesOwn (model X.prog X.w) X.A X.env X.xe) (hc : X.calm = true) {k : K} {g : G} {it : E} {b : S} {tg iter : Expr} {bs : List Stmt} {pos : Pos} (hi : PI X tg iter (tI c T call make k it)) (hf : ∀ v, foldedSetIterable iter X.env v = pure v) (hg : PG X tg (tG c n g)) (hb : PSs X bs (tS c T call make n b)) :
    PS X (.For tg iter bs [] pos) (tS c T call make n (.for_ k g it b)) :=
  ps_mono (ps_for hp hc hi hg hb hf) fun D σ H ⟨F, env, fp, fr, fl, env', R, ev, kk⟩ => by
    unfold evS at ev
    split at ev
    rotate_left
    · cases ev
    rename_i ws env1 e1
    split at ev
    rotate_left
    · cases ev
    rename_i xs e2
    refine ⟨F, env, fp, fr, ws, env1, xs, R, e1, e2, fun J F1 H1 fp1 A1 R1 wk => ?_⟩
    refine ⟨fun i m σ2 H2 => m = xs.length - i ∧ i ≤ xs.length ∧ ∃ F2 env2 fp2, Ctr n F1 H1 fr σ F2 H2 σ2 ∧ Rel c F2 H2 env2 σ2 fp2 fr ∧ loopF (fun x e => asg n g [x] e) (evS T call make n b) (xs.drop i) env2 = some (fl, env'), ⟨_, rfl, Nat.zero_le _, F1, env1, fp1, Ctr.refl, R1, ev⟩, ?_⟩
    rintro i m σ2 H2 ⟨rfl, hi, F2, env2, fp2, ct, R2, el⟩
    by_cases hi2 : i = xs.length
    · left
      subst hi2
      rw [List.drop_length] at el
      cases loopF_nil el
      exact ⟨(wk F2 H2 ct.ext R2.same _).1 (Nat.le_refl _), kk σ2 H2 F2 fp2 (A1.ctr.trans ct) R2⟩
    · right
      obtain ⟨x, hx⟩ : ∃ x, xs[i]? = some x := ⟨xs[i]'(by omega), List.getElem?_eq_getElem (by omega)⟩
      have hdrop : xs.drop i = x :: xs.drop (i + 1) := by
        have h := List.drop_eq_getElem_cons (l := xs) (i := i) (by omega)
        rw [h]
        congr 1
        rw [List.getElem?_eq_getElem (by omega)] at hx
        cases hx
        rfl
      rw [hdrop] at el
      obtain ⟨env3, fl2, env4, c1, c2, c3⟩ := loopF_step el
      obtain ⟨go, yl⟩ := (wk F2 H2 ct.ext R2.same i).2 x hx
      refine ⟨go, fun σ' H' => ∃ m', m' < xs.length - i ∧ (m' = xs.length - (i + 1) ∧ i + 1 ≤ xs.length ∧ ∃ F2 env2 fp2, Ctr n F1 H1 fr σ F2 H' σ' ∧ Rel c F2 H' env2 σ' fp2 fr ∧ loopF (fun x e => asg n g [x] e) (evS T call make n b) (xs.drop (i + 1)) env2 = some (fl, env')), fun _ _ h => h, fun v H3 hy => ?_⟩
      obtain ⟨F3, g3, r3⟩ := yl v H3 hy
      have ct3 : Ctr n F2 H2 fr σ2 F3 H3 σ2 := ⟨g3.ext, fun a ha => g3.keepAt (R2.frm a ha).2, fun _ _ => rfl⟩
      refine ⟨F3, env2, fp2, fr, x, [], env3, R2.grow g3, .nil, (fun _ z => nomatch z), r3, c1, fun σ4 fp4 R4 k4 => ⟨F3, env3, fp4, fr, fl2, env4, R4, c2, ?_⟩⟩
      have ct4 : Ctr n F1 H1 fr σ F3 H3 σ4 := (ct.trans ct3).trans ⟨Same.refl _, fun _ _ => rfl, fun i hi => k4.sl i (asg_fix c1 i hi)⟩
      rcases c3 with ⟨hf, e5⟩ | ⟨rfl, hr⟩ | ⟨w, rfl, hr⟩
      · have hN : KN c n F3 H3 fr σ4 env4 (fun σ' H' => ∃ m', m' < xs.length - i ∧ (m' = xs.length - (i + 1) ∧ i + 1 ≤ xs.length ∧ ∃ F2 env2 fp2, Ctr n F1 H1 fr σ F2 H' σ' ∧ Rel c F2 H' env2 σ' fp2 fr ∧ loopF (fun x e => asg n g [x] e) (evS T call make n b) (xs.drop (i + 1)) env2 = some (fl, env'))) :=
          fun σ' H' F' fp' ct' R' => ⟨_, by omega, rfl, by omega, F', env4, fp', ct4.trans ct', R', e5⟩
        rcases hf with rfl | rfl
        · exact hN
        · exact hN
      · cases hr
        exact KN.after kk (A1.ctr.trans ct4)
      · cases hr
        exact KR.after kk (A1.ctr.trans ct4)
end
end Nb
end
section
set_option maxRecDepth 100000
namespace Nb
open PySem PySem.Spec PyProof.Rows L2
section
variable {p : Pl} {c : Cn} {X : Cx} {T : Tab} {call make : Cal} {n : Nat}
theorem s_expr {a : E} {e : Expr} {pos : Pos} (h : PE X e (tE c T call make a)) (hc : noComp e = true) : PS X (.Expr e pos) (tS c T call make n (.expr a)) :=
  ps_mono (ps_expr h (noComp_ok hc)) fun D σ H ⟨F, env, fp, fr, fl, env', R, ev, k⟩ => by
    unfold evS at ev
    split at ev
    · rename_i w env1 e1
      cases ev
      exact ⟨F, env, fp, fr, w, _, R, e1, fun v H1 F1 fp1 f1 A1 R1 n1 d1 r1 => k σ H1 F1 fp1 A1.ctr (R1.less fun a h => .inr h)⟩
    · cases ev
theorem s_ret {a : E} {e : Expr} {pos : Pos} (h : PE X e (tE c T call make a)) : PS X (.Return (some e) pos) (tS c T call make n (.ret a)) :=
  ps_mono (ps_ret h) fun D σ H ⟨F, env, fp, fr, fl, env', R, ev, k⟩ => by
    unfold evS at ev
    split at ev
    · rename_i w env1 e1
      cases ev
      exact ⟨F, env, fp, fr, w, _, R, e1, fun v H1 F1 fp1 f1 A1 R1 n1 d1 r1 => k v σ H1 F1 fp1 f1 A1.ctr R1 n1 d1 r1⟩
    · cases ev
theorem s_retN {a : E} {pos : Pos} (h : isNonE a = true) : PS X (.Return none pos) (tS c T call make n (.ret a)) :=
  ps_mono ps_retN fun D σ H ⟨F, env, fp, fr, fl, env', R, ev, k⟩ => by
    have ha : a = .pv (.cst .non) := by
      unfold isNonE at h
      split at h
      · rfl
      · cases h
    subst ha
    have ev : some (Fl.ret .non, env) = some (fl, env') := ev
    cases ev
    exact k .non σ H F fp [] Ctr.refl R.nil .nil (fun _ z => nomatch z) ⟨rfl, rfl⟩
theorem s_setLc (x : XOk p c X) {i : Nat} {k : K} {own : List Nat} {g : G} {it t a : E} {elt tg iter : Expr} {ifs : List Expr} {scope : Scope} {pos spos py : Pos} {y : Str} (L : LcOk c T call make p X k own g it t a elt tg iter ifs scope) (hy : p.N[i]? = some y) (hs : swB p py y (.ListComp elt [⟨tg, iter, ifs, 0⟩] scope pos) = true) :
    PS X (.Assign [.Name y py] (.ListComp elt [⟨tg, iter, ifs, 0⟩] scope pos) spos) (tS c T call make n (.asg (.var i) (.lcp k own g it t a))) := by
  unfold swB at hs
  obtain ⟨h1, h2⟩ := and2 hs
  obtain ⟨h2, h3⟩ := and2 h2
  obtain ⟨h3, h4⟩ := and2 h3
  have hk : X.env.scope.kind = .function := by
    rw [x.sc]
    cases q : p.sc.kind <;> rw [q] at h1 <;> first | rfl | (cases h1; done)
  have hl : X.env.scope.names.lookup y = some .local := by
    rw [x.sc]
    cases q : p.sc.names.lookup y with
    | none =>
      rw [q] at h2
      cases h2
    | some u =>
      rw [q] at h2
      cases u <;> first | rfl | (cases h2; done)
  refine ps_mono (ps_setLc (i := i) x.calm (by rw [x.N]; exact x.nd) (by rw [x.N]; exact hy) hl (sw_true hk hl h3 ?_) L.pi L.blk L.pg L.pt L.pe L.fs) fun D σ H ⟨F, env, fp, fr, fl, env', R, ev, kk⟩ => ?_
  · simpa using h4
  · unfold evS at ev
    split at ev
    · rename_i w env1 e1
      obtain ⟨env2, e2, e3⟩ := Option.map_eq_some_iff.mp ev
      cases e3
      rw [ownP_snd]
      refine lc_run L.ow R e1 fun v H1 F1 fp1 f1 A1 R1 n1 d1 r1 => ?_
      unfold asg at e2
      obtain ⟨g1, g2⟩ := guardO_inv e2
      cases g2
      obtain ⟨g0, g1⟩ := and2 g1
      have g1 := of_decide_eq_true g1
      have g0 := of_decide_eq_true g0
      exact kk _ H1 F1 _ ⟨A1.ext, A1.kf, fun j hj => List.getElem?_set_ne (by omega)⟩ (R1.put n1 d1 r1 g1)
    · cases ev
theorem s_aug (x : XOk p c X) {o : O} {i : Nat} {a : E} {y : Str} {e : Expr} {op : Operator} {q pos : Pos} (ho : augO o = some op) (hy : p.N[i]? = some y) (hb : locB p y = true) (h : PE X e (tE c T call make a)) : PS X (.AugAssign (.Name y q) op e pos) (tS c T call make n (.aug o i a)) := by
  have hl : L2.Loc X.env.scope y ∧ (X.fn y = true ∨ X.env.scope.names.lookup y = some .local) := by
    unfold locB at hb
    unfold L2.Loc
    rw [← x.sc] at hb
    split at hb
    · rename_i e
      exact ⟨.inl e, .inr e⟩
    · rename_i e
      exact ⟨.inr e, .inl (x.fn _ hb)⟩
    · cases hb
  have inv : ∀ {ev : Env → Rs}, ∀ {D : Ends} {σ : L2.St} {H : Hp} {F : Hp} {env : Env} {fp : Nat → List Addr} {fr : Addr → Prop} {fl : Fl} {env' : Env}, Rel c F H env σ fp fr → evS T call make n (.aug o i a) env = some (fl, env') → KS c n F H fr σ fl env' D →
      ∃ v0 w env1 x y, σ[i]? = some (some v0) ∧ evE T call make a env = some (w, env1) ∧ get env1 i = some x ∧ opF o [x, w.frz] = some y ∧ n ≤ i ∧ i < env1.length ∧ fl = .next ∧ env' = env1.set i (some y) := fun {_ D σ H F env fp fr fl env'} R ev k => by
    unfold evS at ev
    split at ev
    rotate_left
    · cases ev
    rename_i wp ep
    obtain ⟨v0, hv0, _⟩ := R.slot i wp ep
    split at ev
    rotate_left
    · cases ev
    rename_i w env1 e1
    split at ev
    rotate_left
    · cases ev
    rename_i x e2
    split at ev
    rotate_left
    · cases ev
    rename_i y e3
    obtain ⟨env2, e4, e5⟩ := Option.map_eq_some_iff.mp ev
    cases e5
    unfold asg at e4
    obtain ⟨g1, g2⟩ := guardO_inv e4
    cases g2
    obtain ⟨g0, g1⟩ := and2 g1
    exact ⟨v0, w, env1, x, y, hv0, e1, e2, e3, of_decide_eq_true g0, of_decide_eq_true g1, rfl, rfl⟩
  have fin : ∀ (f : Int → Int → Int), (opF o = ii fun i j => some (.int (f i j))) → ∀ D σ H, tS c T call make n (.aug o i a) D σ H → tAug i (tE c T call make a) (ipI f) D σ H := fun f hf D σ H ⟨F, env, fp, fr, fl, env', R, ev, k⟩ => by
    obtain ⟨v0, w, env1, x, y, hv0, e1, e2, e3, g0, g1, rfl, rfl⟩ := inv (ev := fun _ => none) R ev k
    refine ⟨v0, hv0, F, env, fp, fr, w, env1, R, e1, fun v H1 F1 fp1 f1 A1 R1 n1 d1 r1 => ?_⟩
    rw [hf] at e3
    obtain ⟨ia, ib, e4, e5⟩ := ii_inv e3
    cases e5
    have hx : x = .int ia := by
      simp only [List.cons.injEq] at e4
      exact e4.1
    have hw : w.frz = .int ib := by
      simp only [List.cons.injEq] at e4
      exact e4.2.1
    subst hx
    have hw2 : w = .int ib := by
      cases w <;> first | (cases hw; done) | skip
      exact hw
    subst hw2
    obtain ⟨rfl, rfl⟩ := r1
    obtain ⟨v1, hv1, rfl, _⟩ := R1.slot i _ e2
    rw [hv0] at hv1
    cases hv1
    exact ⟨ia, ib, rfl, rfl, k _ H1 F1 _ ⟨A1.ext, A1.kf, fun j hj => List.getElem?_set_ne (by omega)⟩ (R1.put .nil (fun _ z => nomatch z) ⟨rfl, rfl⟩ g1)⟩
  unfold augO at ho
  split at ho
  · cases ho
    exact ps_mono (ps_aug (i := i) (by rw [x.N]; exact x.nd) (by rw [x.N]; exact hy) hl.1 h ip_add hl.2) (fin _ rfl)
  · cases ho
    exact ps_mono (ps_aug (i := i) (by rw [x.N]; exact x.nd) (by rw [x.N]; exact hy) hl.1 h ip_sub hl.2) (fin _ rfl)
  · cases ho
/-- the shape of what a write asks -/
theorem run_mut1 {T : Tab} {m : M} {ws : List W} {l : List Ac} {i : Nat} {env : Env} {fl : Fl} {env' : Env} (h : mut1 T m ws l i env = some (fl, env')) : ∃ w w1, get env i = some w ∧ updP (mutF T.fld m ws) l w = some w1 ∧ fl = .next ∧ env' = env.set i (some w1) := by
  unfold mut1 at h
  split at h
  · rename_i w e1
    split at h
    · rename_i w1 e2
      cases h
      exact ⟨w, w1, e1, e2, rfl, rfl⟩
    · cases h
  · cases h
theorem s_mut (x : XOk p c X) (C : COk p c X T call make) {m : M} {i : Nat} {pa : Pa} {as : E} {o e0 : Expr} {es : List Expr} {y : Str} {apos pos pos' : Pos} (hm : mBm m y = true) (ho : goodH o = true) (hl : (apos.endLine == pos.line) = true) (hn : (e0 :: es).length < 30) (hg : goodA (e0 :: es) = true) (hp : mPa p i pa o = true)
    (ha : PA X (e0 :: es) (tL c T call make as)) (hmu : muE as i = false) : PS X (.Expr (.Call (.Attribute o y apos) (e0 :: es) [] pos) pos') (tS c T call make n (.mut m i pa as)) := by
  have key : ∀ D σ H, tS c T call make n (.mut m i pa as) D σ H → tPa c i pa σ H fun v H1 => tyV X.K "list" v H1 ∧ tL c T call make as σ H1 fun vs H2 => ∃ a o', v = .ref a ∧ MutAt c H2 a o' vs m ∧ D.nx σ (upd H2 a o') := fun D σ H ⟨F, env, fp, fr, fl, env', R, ev, k⟩ => by
    unfold evS at ev
    split at ev
    rotate_left
    · cases ev
    rename_i l w0 el e0'
    split at ev
    rotate_left
    · cases ev
    rename_i ob us es'
    split at ev
    rotate_left
    · cases ev
    rename_i ws env1 ea
    obtain ⟨w, w1, e1, e2, rfl, rfl⟩ := run_mut1 ev
    obtain ⟨v0, hv0, r0⟩ := R.slot i w0 e0'
    obtain ⟨vx, fx, rx, hrd⟩ := rd_of r0 es'
    refine ⟨F, env, fp, fr, l, v0, vx, R, el, hv0, hrd H fun _ _ => rfl, ?_, F, env, fp, fr, ws, env1, R, ea, fun vs H1 F1 fp1 f1 A1 R1 n1 d1 r1 => ?_⟩
    · have : ∃ a xs, vx = .ref a ∧ H a = some (.lst xs) := by
        cases ob
        · obtain ⟨_, a, xs, e, h, _⟩ := rx
          exact ⟨a, xs, e, R.same _ _ h⟩
        · obtain ⟨a, xs, _, e, h, _⟩ := rx
          exact ⟨a, xs, e, h⟩
      obtain ⟨a, xs, rfl, h⟩ := this
      exact .inl ⟨rfl, xs, SqL.of h⟩
    · obtain ⟨a, o', fp2, k1, k2, k3, k4⟩ := mut_fin C.fld R1 n1 d1 r1 hv0 e1 e2
      refine ⟨a, o', (hrd H1 fun b hb => A1.ks i hmu b hb).det k1, k2, k σ _ F1 fp2 ⟨A1.ext, fun b hb => (k4 b hb).trans (A1.kf b hb), fun _ _ => rfl⟩ k3⟩
  have hfew : ((backTo pos (starEach (e0 :: es) X.env)).all (fun x => !x.1) && (backToKw pos (keywordEach [] X.env)).all (fun x => x.1.isSome) && decide ((e0 :: es).length + ([] : List Keyword).length + (if ([] : List Keyword).isEmpty then 0 else 1) < 30)) = true := by
    rw [goodA_all hg]
    show (true && true && decide ((e0 :: es).length + 0 + 0 < 30)) = true
    simpa using hn
  obtain ⟨g1, g2⟩ := and2 hg
  cases m with
  | append =>
    obtain rfl : y = "append" := by simpa [mBm] using hm
    refine ps_mono (ps_expr (pe_bm PySem.F.plainAttrs_list PySem.F.slot_list_append PySem.F.type_list_append mt_append (Pa_sound x hp) ha (goodH_attr ho) hfew hl (goodH_star g1) (goodA_any g2)) rfl) fun D σ H h => ?_
    obtain ⟨F, env, fp, fr, l, v0, vx, R, el, hv0, rd, ty, F', env', fp', fr', ws, env1, R', ea, kk⟩ := key D σ H h
    refine ⟨F, env, fp, fr, l, v0, vx, R, el, hv0, rd, ty, F', env', fp', fr', ws, env1, R', ea, fun vs H1 F1 fp1 f1 A1 R1 n1 d1 r1 => ?_⟩
    obtain ⟨a, o', h1, ⟨xs, y, h2, h3, h4, h5⟩, h6⟩ := kk vs H1 F1 fp1 f1 A1 R1 n1 d1 r1
    subst h5
    exact ⟨a, xs, y, h1, h2, h3, h4, h6⟩
  | insert =>
    obtain rfl : y = "insert" := by simpa [mBm] using hm
    refine ps_mono (ps_expr (pe_bm PySem.F.plainAttrs_list PySem.F.slot_list_insert PySem.F.type_list_insert mt_insert (Pa_sound x hp) ha (goodH_attr ho) hfew hl (goodH_star g1) (goodA_any g2)) rfl) fun D σ H h => ?_
    obtain ⟨F, env, fp, fr, l, v0, vx, R, el, hv0, rd, ty, F', env', fp', fr', ws, env1, R', ea, kk⟩ := key D σ H h
    refine ⟨F, env, fp, fr, l, v0, vx, R, el, hv0, rd, ty, F', env', fp', fr', ws, env1, R', ea, fun vs H1 F1 fp1 f1 A1 R1 n1 d1 r1 => ?_⟩
    obtain ⟨a, o', h1, ⟨xs, i, y, h2, h3, h4, h5, h6, h7⟩, h8⟩ := kk vs H1 F1 fp1 f1 A1 R1 n1 d1 r1
    subst h7
    exact ⟨a, xs, i, y, h1, h2, h3, h4, h5, h6, h8⟩
  | seti => cases hm
  | setf f => cases hm
theorem sub_ok {o i : Expr} {env : PySem.Env} {pos : Pos} (h : goodH i = true) (v : Value) : assign (.Subscript o i pos) env v = (do
    let ov ← holding [v] (eval o env)
    let iv ← holding [v, ov] (eval i env)
    standAt pos
    holding [v, ov, iv] (setItem ov iv v)
    release [v, ov, iv] []) := by
  cases i <;> first | rfl | (cases h; done)
theorem s_seti (x : XOk p c X) (C : COk p c X T call make) {i : Nat} {pa : Pa} {k : P} {a : E} {o kk e : Expr} {q pos : Pos} (hn : noComp e = true) (hgk : goodH kk = true) (hp : mPa p i pa o = true) (hk : cP p k kk = true) (h : PE X e (tE c T call make a)) : PS X (.Assign [.Subscript o kk q] e pos) (tS c T call make n (.seti i pa k a)) := by
  refine ps_mono (ps_asg h (pg_sub (Pa_sound x hp) ((P_sound x k).1 kk hk) set_list (sub_ok hgk)) (noCompS hn)) fun D σ H ⟨F, env, fp, fr, fl, env', R, ev, ks⟩ => ?_
  unfold evS at ev
  split at ev
  rotate_left
  · cases ev
  rename_i xw env1 e1
  split at ev
  rotate_left
  · cases ev
  rename_i l kw el ek
  obtain ⟨w, w1, e2, e3, rfl, rfl⟩ := run_mut1 ev
  refine ⟨F, env, fp, fr, xw, env1, R, e1, fun v H1 F1 fp1 f1 A1 R1 n1 d1 r1 => ?_⟩
  obtain ⟨v0, hv0, r0⟩ := R1.slot i w e2
  have hki : ∃ j, kw = .int j := by
    obtain ⟨_, _, _, _, _, _, _, _, _, g4, _⟩ := focus r0 e3
    cases kw <;> first | exact ⟨_, rfl⟩ | skip
    all_goals (rename_i xx _ _ _ _ _ _ _ _ _; cases xx <;> cases g4)
  obtain ⟨j, rfl⟩ := hki
  obtain ⟨a', o', fp2, k1, ⟨xs, i', j', y, k2, k3, k4, k5⟩, k6, k7⟩ := mut_fin C.fld R1 n1 d1 (ws := [.int j, xw]) (vs := [.int j, v]) ⟨.int j, [v], [], f1, rfl, rfl, ⟨rfl, rfl⟩, rep1 r1⟩ hv0 e2 e3
  refine ⟨F1, env1, fp1, _, l, v0, _, R1, el, hv0, k1, F1, env1, fp1, _, _, R1, ek, fun vk fk rk => ?_⟩
  obtain ⟨rfl, _⟩ := rk
  simp only [List.cons.injEq, V.int.injEq] at k2
  obtain ⟨rfl, rfl, _⟩ := k2
  subst k5
  exact ⟨a', xs, _, j', rfl, rfl, k3, k4, ks σ _ F1 fp2 ⟨A1.ext, fun b hb => (k7 b hb).trans (A1.kf b hb), fun _ _ => rfl⟩ k6⟩
theorem s_setf (x : XOk p c X) (C : COk p c X T call make) {i : Nat} {pa : Pa} {f : Nat} {a : E} {o e : Expr} {y : Str} {q pos : Pos} (hn : noComp e = true) (hf : p.nm f = y) (hp : mPa p i pa o = true) (h : PE X e (tE c T call make a)) : PS X (.Assign [.Attribute o y q] e pos) (tS c T call make n (.setf i pa f a)) := by
  rw [x.nm] at hf
  subst hf
  refine ps_mono (ps_fld (Pa_sound x hp) h (noComp_ok hn)) fun D σ H ⟨F, env, fp, fr, fl, env', R, ev, ks⟩ => ?_
  unfold evS at ev
  split at ev
  rotate_left
  · cases ev
  rename_i xw env1 e1
  split at ev
  rotate_left
  · cases ev
  rename_i l el
  obtain ⟨w, w1, e2, e3, rfl, rfl⟩ := run_mut1 ev
  refine ⟨F, env, fp, fr, xw, env1, R, e1, fun v H1 F1 fp1 f1 A1 R1 n1 d1 r1 => ?_⟩
  obtain ⟨v0, hv0, r0⟩ := R1.slot i w e2
  obtain ⟨a', o', fp2, k1, ⟨D', dx, fs, y, k2, k3, k4, k4', k5, k6⟩, k7, k8⟩ := mut_fin C.fld R1 n1 d1 (rep1 r1) hv0 e2 e3
  cases k2
  subst k6
  exact ⟨F1, env1, fp1, _, l, v0, _, R1, el, hv0, k1, a', _, dx, fs, rfl, k3, by rw [x.K]; exact c.cls D' k4, by rw [x.K]; exact c.noat D' f k4', k5, ks σ _ F1 fp2 ⟨A1.ext, fun b hb => (k8 b hb).trans (A1.kf b hb), fun _ _ => rfl⟩ k7⟩
end
end Nb
namespace Nb
open PySem PySem.Spec PyProof.Rows L2
section
variable {p : Pl} {c : Cn} {X : Cx} {T : Tab} {call make : Cal} {n : Nat}
theorem augO_eq {o : O} {op op' : Operator} (h : augO o = some op) (h' : augO o = some op') : op = op' := by
  rw [h] at h'
  cases h'
  rfl
theorem S_sound (x : XOk p c X) (C : COk p c X T call make) (hp : PassesOwn (model X.prog X.w) X.A X.env X.xe) : ∀ s : S, (∀ st, cS p s st = true → PS X st (tS c T call make n s)) ∧ (∀ sts, cSs p s sts = true → PSs X sts (tS c T call make n s)) := by
  intro s
  have no : ∀ {s : S} {sts : List Stmt}, cSs p s sts = true → (∀ a r, s ≠ .cons a r) → s ≠ .nil → s ≠ .stuck → False := fun {s sts} h h1 h2 h3 => by
    cases s <;> first | exact absurd rfl h2 | exact absurd rfl h3 | exact absurd rfl (h1 _ _) | (cases sts <;> (unfold cSs at h; cases h))
  have never : ∀ {st : Stmt}, PS X st (tS c T call make n .stuck) := fun {st} => ps_mono ps_never fun D σ H ⟨_, _, _, _, _, _, _, ev, _⟩ => by
    unfold evS at ev
    cases ev
  induction s with
  | pass =>
    refine ⟨fun st h => ?_, fun sts h => (no h (fun _ _ z => nomatch z) (fun z => nomatch z) (fun z => nomatch z)).elim⟩
    unfold cS at h
    split at h
    · exact s_next ps_pass fun env => by rw [evS]
    · unfold isDoc at h
      split at h
      · exact s_next ps_doc fun env => by rw [evS]
      · cases h
    · cases h
  | brk =>
    refine ⟨fun st h => ?_, fun sts h => (no h (fun _ _ z => nomatch z) (fun z => nomatch z) (fun z => nomatch z)).elim⟩
    unfold cS at h
    split at h
    · exact ps_mono ps_break fun D σ H ⟨F, env, fp, fr, fl, env', R, ev, k⟩ => by
        unfold evS at ev
        cases ev
        exact k σ H F fp Ctr.refl R
    · cases h
  | cont =>
    refine ⟨fun st h => ?_, fun sts h => (no h (fun _ _ z => nomatch z) (fun z => nomatch z) (fun z => nomatch z)).elim⟩
    unfold cS at h
    split at h
    · exact ps_mono ps_continue fun D σ H ⟨F, env, fp, fr, fl, env', R, ev, k⟩ => by
        unfold evS at ev
        cases ev
        exact k σ H F fp Ctr.refl R
    · cases h
  | stuck =>
    refine ⟨fun st h => never, fun sts h => pss_mono pss_never fun D σ H ⟨_, _, _, _, _, _, _, ev, _⟩ => by
      unfold evS at ev
      cases ev⟩
  | expr a =>
    refine ⟨fun st h => ?_, fun sts h => (no h (fun _ _ z => nomatch z) (fun z => nomatch z) (fun z => nomatch z)).elim⟩
    unfold cS at h
    split at h
    · obtain ⟨h1, h2⟩ := and2 h
      exact s_expr ((E_sound a).1 p X x C _ h2) h1
    · cases h
  | asg g a =>
    refine ⟨fun st h => ?_, fun sts h => (no h (fun _ _ z => nomatch z) (fun z => nomatch z) (fun z => nomatch z)).elim⟩
    unfold cS at h
    split at h
    rotate_left
    · cases h
    rename_i tg e pos
    unfold cAsg at h
    cases hn : noComp e with
    | true =>
      simp only [hn] at h
      obtain ⟨h1, h2⟩ := and2 h
      obtain ⟨h2, h3⟩ := and2 h2
      obtain ⟨h3, h4⟩ := and2 h3
      exact s_asg (ps_asg ((E_sound a).1 p X x C e h4) ((G_sound x n g).1 tg h3) (noCompS hn) (plainTg_ok h1) (by rw [nostar_ok h2] <;> rfl))
    | false =>
      simp only [hn] at h
      split at h
      · obtain ⟨h1, h2⟩ := and2 h
        obtain ⟨h2, h3⟩ := and2 h2
        obtain ⟨elt, tg, iter, ifs, scope, pos, rfl, L⟩ := lcp_parts x C (E_sound _) (E_sound _) (E_sound _) h3
        exact s_setLc x L (of_decide_eq_true h1) h2
      · cases h
  | ret a =>
    refine ⟨fun st h => ?_, fun sts h => (no h (fun _ _ z => nomatch z) (fun z => nomatch z) (fun z => nomatch z)).elim⟩
    unfold cS at h
    split at h
    · exact s_ret ((E_sound a).1 p X x C _ h)
    · exact s_retN h
    · cases h
  | iff t a b iha ihb =>
    refine ⟨fun st h => ?_, fun sts h => (no h (fun _ _ z => nomatch z) (fun z => nomatch z) (fun z => nomatch z)).elim⟩
    unfold cS at h
    split at h
    · obtain ⟨h1, h2⟩ := and2 h
      obtain ⟨h2, h3⟩ := and2 h2
      obtain ⟨h3, h4⟩ := and2 h3
      exact s_if ((E_sound t).2.2.1 h1 p X x C _ h2) (iha.2 _ h3) (ihb.2 _ h4)
    · cases h
  | whl t b ih =>
    refine ⟨fun st h => ?_, fun sts h => (no h (fun _ _ z => nomatch z) (fun z => nomatch z) (fun z => nomatch z)).elim⟩
    unfold cS at h
    split at h
    · obtain ⟨h1, h2⟩ := and2 h
      obtain ⟨h2, h3⟩ := and2 h2
      exact s_whl hp ((E_sound t).2.2.1 h1 p X x C _ h2) (ih.2 _ h3)
    · cases h
  | for_ k g it b ih =>
    refine ⟨fun st h => ?_, fun sts h => (no h (fun _ _ z => nomatch z) (fun z => nomatch z) (fun z => nomatch z)).elim⟩
    unfold cS at h
    split at h
    rotate_left
    · cases h
    split at h
    rotate_left
    · cases h
    rename_i tg iter bs pos _ es hes
    obtain ⟨h1, h2⟩ := and2 h
    obtain ⟨h2, h3⟩ := and2 h2
    obtain ⟨h3, h4⟩ := and2 h3
    have hI := I_sound x (T := T) (call := call) (make := make) hes ((E_sound it).2.1 p X x C es h2) fun hk => by
      subst hk
      obtain ⟨b, rfl⟩ := seqOk_inv h1
      refine ⟨b, rfl, fun e1 he => ?_⟩
      subst he
      unfold cL at h2
      obtain ⟨_, h2⟩ := and2 h2
      exact (E_sound b).1 p X x C e1 (and2 h2).1
    exact s_for hp x.calm hI.1 hI.2 ((G_sound x n g).1 tg h3) (ih.2 _ h4)
  | aug o i a =>
    refine ⟨fun st h => ?_, fun sts h => (no h (fun _ _ z => nomatch z) (fun z => nomatch z) (fun z => nomatch z)).elim⟩
    unfold cS at h
    split at h
    · obtain ⟨h1, h2⟩ := and2 h
      obtain ⟨h2, h3⟩ := and2 h2
      obtain ⟨h3, h4⟩ := and2 h3
      exact s_aug x (of_decide_eq_true h1) (of_decide_eq_true h2) h3 ((E_sound a).1 p X x C _ h4)
    · cases h
  | «mut» m i pa as =>
    refine ⟨fun st h => ?_, fun sts h => (no h (fun _ _ z => nomatch z) (fun z => nomatch z) (fun z => nomatch z)).elim⟩
    unfold cS at h
    split at h
    · rename_i o y apos es pos pos'
      obtain ⟨h1, h⟩ := and2 h
      obtain ⟨h2, h⟩ := and2 h
      obtain ⟨h3, h⟩ := and2 h
      obtain ⟨h4, h⟩ := and2 h
      obtain ⟨h5, h⟩ := and2 h
      obtain ⟨h6, h⟩ := and2 h
      obtain ⟨h7, h⟩ := and2 h
      obtain ⟨h8, h9⟩ := and2 h
      cases es with
      | nil => cases h5
      | cons e0 es => exact s_mut x C h1 h2 h3 (of_decide_eq_true h4) h6 h7 ((E_sound as).2.1 p X x C _ h8) (by simpa using h9)
    · cases h
  | seti i pa k a =>
    refine ⟨fun st h => ?_, fun sts h => (no h (fun _ _ z => nomatch z) (fun z => nomatch z) (fun z => nomatch z)).elim⟩
    unfold cS at h
    split at h
    · obtain ⟨h1, h⟩ := and2 h
      obtain ⟨h2, h⟩ := and2 h
      obtain ⟨h3, h⟩ := and2 h
      obtain ⟨h4, h5⟩ := and2 h
      exact s_seti x C h1 h2 h3 h4 ((E_sound a).1 p X x C _ h5)
    · cases h
  | setf i pa f a =>
    refine ⟨fun st h => ?_, fun sts h => (no h (fun _ _ z => nomatch z) (fun z => nomatch z) (fun z => nomatch z)).elim⟩
    unfold cS at h
    split at h
    · obtain ⟨h1, h⟩ := and2 h
      obtain ⟨h2, h⟩ := and2 h
      obtain ⟨h3, h4⟩ := and2 h
      exact s_setf x C h1 (of_decide_eq_true h2) h3 ((E_sound a).1 p X x C _ h4)
    · cases h
  | nil =>
    refine ⟨fun st h => (by unfold cS at h; cases h), fun sts h => ?_⟩
    cases sts with
    | nil => exact s_nil
    | cons => unfold cSs at h; cases h
  | cons a r iha ihr =>
    refine ⟨fun st h => (by unfold cS at h; cases h), fun sts h => ?_⟩
    cases sts with
    | nil => unfold cSs at h; cases h
    | cons st sts =>
      unfold cSs at h
      obtain ⟨h1, h2⟩ := and2 h
      exact s_cons (iha.1 st h1) (ihr.2 sts h2)
end
end Nb
end
section
set_option maxRecDepth 100000
namespace Nb
open PySem PySem.Spec PyProof.Rows L2
/-! ### defs -/
/-- the arguments' own objects -/
theorem reps_fps {c : Cn} {F H : Hp} : ∀ {ws : List W} {vs : List V} {f : List Addr}, Reps c F H ws vs f → f.Nodup →
    ∃ g : Nat → List Addr, (∀ i w, ws[i]? = some w → ∃ v, vs[i]? = some v ∧ Rep c F H w v (g i)) ∧ (∀ i, ∀ a ∈ g i, a ∈ f) ∧ (∀ i, (g i).Nodup) ∧ ∀ i j, i ≠ j → Disj (g i) (g j)
  | [], vs, f, r, nd => ⟨fun _ => [], (fun i w h => by simp at h), (fun _ _ h => nomatch h), (fun _ => .nil), (fun _ _ _ _ h => nomatch h)⟩
  | w :: ws, vs, f, r, nd => by
    obtain ⟨v, t, f1, f2, rfl, rfl, r1, r2⟩ := r
    obtain ⟨n1, n2, n3⟩ := List.nodup_append.mp nd
    obtain ⟨g, h1, h2, h3, h4⟩ := reps_fps r2 n2
    refine ⟨fun i => match i with | 0 => f1 | j + 1 => g j, fun i w' h => ?_, fun i a ha => ?_, fun i => ?_, fun i j hij a ha hb => ?_⟩
    · cases i with
      | zero =>
        have : w = w' := by simpa using h
        subst this
        exact ⟨v, rfl, r1⟩
      | succ i =>
        obtain ⟨u, e1, e2⟩ := h1 i w' (by simpa using h)
        exact ⟨u, by simpa using e1, e2⟩
    · cases i with
      | zero => exact List.mem_append_left _ ha
      | succ i => exact List.mem_append_right _ (h2 i a ha)
    · cases i with
      | zero => exact n1
      | succ i => exact h3 i
    · cases i with
      | zero => cases j with
        | zero => exact hij rfl
        | succ j => exact n3 a ha a (h2 j a hb) rfl
      | succ i => cases j with
        | zero => exact n3 a hb a (h2 i a ha) rfl
        | succ j => exact h4 i j (fun z => hij (by rw [z])) a ha hb
def makeOf (T : Tab) (ds : Nat → Option Def) (k : Nat) : Cal := match k with
  | 0 => fun _ _ => none
  | j + 1 => run T ds j
structure DefOk (c : Cn) (p0 : Pl) (i : Nat) (d : Def) : Prop where
  ex : ∃ (x qual : Str) (params : Arguments) (body : List Stmt) (scope : Scope) (N ps : List Str) (fd : FuncData), FunD c.K x qual params body scope [] [] (c.fa i) fd ∧ FnScope N ps scope ∧ ps.length = d.np ∧ N.length = d.ns ∧ d.nb ≤ 1 ∧ d.nb ≤ d.np ∧
    cSs { p0 with N := N, sc := scope, fn := fun _ => true } d.body body = true ∧ PySem.W.keepIn c.K (.ref (c.fa i)) = true ∧ Binds c.K fd ps []
structure Txt (P : Program) (w : World) (mg : Str → Option Value) (base : Heap) (c : Cn) (p0 : Pl) (T : Tab) (ds : Nat → Option Def) : Prop where
  ok : ∀ i d, ds i = some d → DefOk c p0 i d
  nm : p0.nm = c.nm
  free : ∀ x, p0.free.contains x = true → mg x = none
  mis : ∀ q ∈ p0.mis, ∃ t, mg (c.nm q.1) = some (.int q.2 t)
  defs : ∀ q ∈ p0.defs, mg (c.nm q.1) = some (.ref (c.fa q.2))
  clss : ∀ q ∈ p0.clss, mg (c.nm q.1) = some (.ref (c.ca q.2))
  meth : ∀ C m f, T.meth C m = some f → Meth c.K (c.ca C) (c.nm m) (c.fa f) ∧ (c.okf C m = false ∧ c.okc C = true)
  init : ∀ C f, T.init C = some f → Mk c.K (c.ca C) (c.fa f) ∧ c.okc C = true
  fld : ∀ C f, T.fld C f = true → c.okf C f = true
  sup : ∀ C f, T.sup C = some f → ClX.CRead c.K (c.ca C) (.type "type") ∧ ClX.CVal c.K (c.ca C) (.type "type") "__init__" (.ref (c.fa f)) (.ref (c.fa f))
section
variable {P : Program} {w : World} {mg : Str → Option Value} {base : Heap} {c : Cn} {p0 : Pl} {T : Tab} {ds : Nat → Option Def}
theorem run_ds : ∀ {k i : Nat} {ws : List W} {r : W × List W}, run T ds k i ws = some r → ∃ d, ds i = some d ∧ ws.length = d.np
  | 0, _, _, _, h => by
    unfold run at h
    cases h
  | k + 1, i, ws, r, h => by
    unfold run at h
    split at h
    · rename_i d hd
      refine ⟨d, hd, ?_⟩
      unfold runD at h
      split at h
      · rename_i hl
        exact of_decide_eq_true hl
      · cases h
    · cases h
theorem lent0 {env : Env} {l : List W} (h : lent 0 env = some l) : l = [] := by
  unfold lent at h
  cases h
  rfl
theorem lent1 {env : Env} {l : List W} (h : lent 1 env = some l) : ∃ w, l = [w] ∧ get env 0 = some w := by
  cases env with
  | nil =>
    unfold lent at h
    cases h
  | cons o r =>
    cases o with
    | none =>
      unfold lent at h
      cases h
    | some w =>
      unfold lent at h
      have : lent 0 r = some [] := by
        unfold lent
        rfl
      rw [this] at h
      cases h
      exact ⟨w, rfl, rfl⟩
/-- every def keeps its promise, at every level -/
theorem levels (t : Txt P w mg base c p0 T ds) : ∀ (k i : Nat) (d : Def), ds i = some d → ∀ (x qual : Str) (params : Arguments) (body : List Stmt) (scope : Scope) (N ps : List Str) (fd : FuncData), FunD c.K x qual params body scope [] [] (c.fa i) fd → FnScope N ps scope → ps.length = d.np → N.length = d.ns → d.nb ≤ 1 → d.nb ≤ d.np →
    cSs { p0 with N := N, sc := scope, fn := fun _ => true } d.body body = true → FnOk P w c.K mg base CX0 k (c.fa i) fd ps (spD c d.nb ps.length (run T ds k i)) := by
  intro k
  induction k using Nat.strongRecOn with
  | ind k ih =>
    intro i d hd x qual params body scope N ps fd FD S hps hN hnb hnp hc
    have len : ∀ (vs : List V) (H : Hp) (Q : VK) (E : XK), spD c d.nb ps.length (run T ds k i) vs H Q E → vs.length = ps.length := fun vs H Q E h => h.1
    cases k with
    | zero =>
      refine ⟨len, fun A outer s H args us vs Q E _ _ _ _ h => ?_⟩
      obtain ⟨_, F, ws, fpA, fr, w0, ws', _, _, _, _, _, e, _⟩ := h
      unfold run at e
      cases e
    | succ k =>
      refine FD.ok S len fun cdv A outer s H vs Q E hr hsp => ?_
      refine ⟨tS c T (run T ds k) (makeOf T ds k) d.nb d.body, PSs.nox ?_, ?_⟩
      · have XK' : XOk { p0 with N := N, sc := scope, fn := fun _ => true } c (cxOf CX0 P w c.K mg base N qual scope (c.fa i) cdv A outer s H E).nox :=
          ⟨rfl, rfl, S.nd, rfl, rfl, fun _ _ => rfl, t.nm, t.free, t.mis, by
            have := hr.un
            show (A.deeper _).units + 100 < cLine
            omega⟩
        have CK : COk { p0 with N := N, sc := scope, fn := fun _ => true } c (cxOf CX0 P w c.K mg base N qual scope (c.fa i) cdv A outer s H E).nox T (run T ds k) (makeOf T ds k) := by
          have at_ : ∀ (j m : Nat), j < k + 1 → j + m ≤ k → ∀ f ws r, run T ds j f ws = some r → FnAt c (cxOf CX0 P w c.K mg base N qual scope (c.fa i) cdv A outer s H E).nox (run T ds j) f m := fun j m hj hjm f ws r e => by
            obtain ⟨d2, hd2, hl2⟩ := run_ds e
            obtain ⟨x2, qual2, params2, body2, scope2, N2, ps2, fd2, F2, S2, e1, e2, e3, e4, e5, e6, e7⟩ := (t.ok f d2 hd2).ex
            exact ⟨j, fd2, ps2, d2.nb, hr.mono hjm, ih j hj f d2 hd2 x2 qual2 params2 body2 scope2 N2 ps2 fd2 F2 S2 e1 e2 e3 e4 e5, e6, e7, fun ws' r' e' => by
              obtain ⟨d3, hd3, hl3⟩ := run_ds e'
              rw [hd2] at hd3
              cases hd3
              rw [hl3, e1]⟩
          refine ⟨fun f ws r e => at_ k 0 (Nat.lt_succ_self _) (Nat.le_refl _) f ws r e, fun f ws r e => ?_, t.defs, t.clss, t.meth, t.init, t.fld, t.sup⟩
          cases k with
          | zero => cases e
          | succ j => exact at_ j 1 (by omega) (by omega) f ws r e
        exact (S_sound XK' CK PassesOwn.never d.body).2 body hc
      · obtain ⟨hl, F, ws, fpA, fr, w0, ws', hS, rs, nd, ow, frm, e, k0⟩ := hsp
        have hwl : ws.length = d.np := by rw [← rs.len, hl, hps]
        unfold run at e
        rw [hd] at e
        have e : runD T (run T ds k) (makeOf T ds k) d ws = some (w0, ws') := e
        unfold runD at e
        simp only [decide_eq_true hwl] at e
        obtain ⟨g, g1, g2, g3, g4⟩ := reps_fps rs nd
        have R : Rel c F H (ws.map some ++ List.replicate (d.ns - d.np) none) (L2.start N vs) (fun i => if i < ws.length then g i else []) fr := by
          have hz : ∀ {i a}, a ∈ (if i < ws.length then g i else []) → i < ws.length ∧ a ∈ g i := fun {i a} h => by
            split at h
            · rename_i q
              exact ⟨q, h⟩
            · exact nomatch h
          refine ⟨hS, ?_, fun i u hi => ?_, fun i => ?_, fun i j n a ha hb => g4 i j n a (hz ha).2 (hz hb).2, fun i a ha => ow a (g2 i a (hz ha).2), frm⟩
          · unfold L2.start
            simp only [List.length_append, List.length_map, List.length_replicate]
            rw [hwl, hl, hps, hN]
          · have hu : ws[i]? = some u := by
              unfold get at hi
              split at hi
              · rename_i u' e'
                cases hi
                by_cases q : i < ws.length
                · rw [List.getElem?_append_left (by simpa using q), List.getElem?_map] at e'
                  obtain ⟨y, h1, h2⟩ := Option.map_eq_some_iff.mp e'
                  cases h2
                  exact h1
                · rw [List.getElem?_append_right (by simpa using q), List.getElem?_replicate] at e'
                  split at e' <;> cases e'
              · cases hi
            have hlt : i < ws.length := (List.getElem?_eq_some_iff.mp hu).1
            obtain ⟨v, h1, h2⟩ := g1 i u hu
            refine ⟨v, ?_, by rw [if_pos hlt]; exact h2⟩
            unfold L2.start
            rw [List.getElem?_append_left (by rw [List.length_map]; exact (List.getElem?_eq_some_iff.mp h1).1), List.getElem?_map, h1]
            rfl
          · split
            · exact g3 i
            · exact .nil
        have fin : ∀ {wr : W} {envF : Env} {v : V} {σ' : L2.St} {H' F' : Hp} {fp' : Nat → List Addr} {fpw : List Addr}, (lent d.nb envF).map (fun l => (wr, l)) = some (w0, ws') → Ctr d.nb F H fr (L2.start N vs) F' H' σ' → Rel c F' H' envF σ' fp' (fun a => a ∈ fpw ∨ fr a) → fpw.Nodup → (∀ a ∈ fpw, ¬ fr a) → Rep c F' H' wr v fpw → Q v H' := fun {wr envF v σ' H' F' fp' fpw} el ct R' n' d' r' => by
          obtain ⟨l, h1, h2⟩ := Option.map_eq_some_iff.mp el
          cases h2
          have kf : ∀ a, fr a → H' a = H a ∧ F' a = none := fun a ha => ⟨ct.kf a ha, (R'.frm a (.inr ha)).1⟩
          have ownW : ∀ a ∈ fpw, F' a = none ∧ (∃ o, H' a = some o) ∧ ¬ fr a := fun a ha => ⟨(R'.frm a (.inl ha)).1, (R'.frm a (.inl ha)).2, d' a ha⟩
          rcases Nat.lt_or_ge 0 d.nb with hb | hb
          · have hb1 : d.nb = 1 := by omega
            rw [hb1] at h1
            obtain ⟨wf, rfl, hg⟩ := lent1 h1
            obtain ⟨vf, hv, rf⟩ := R'.slot 0 wf hg
            rw [ct.fx 0 hb] at hv
            cases vs with
            | nil =>
              rw [List.length_nil, hps] at hl
              omega
            | cons v0 vs0 =>
              have : v0 = vf := by
                unfold L2.start at hv
                simpa using hv
              subst this
              refine k0 v H' F' fpw (fp' 0) ct.ext R'.same kf r' ?_ ?_ fun a ha => ?_
              · rw [hb1]
                exact rep1 rf
              · exact nodup_app n' (R'.nd 0) fun a ha hb => (R'.own 0 a ha).2.2 (.inl hb)
              · rcases List.mem_append.mp ha with ha | ha
                · exact ownW a ha
                · obtain ⟨q1, q2, q3⟩ := R'.own 0 a ha
                  exact ⟨q1, q2, fun z => q3 (.inr z)⟩
          · have hb0 : d.nb = 0 := by omega
            rw [hb0] at h1
            cases lent0 h1
            refine k0 v H' F' fpw [] ct.ext R'.same kf r' ?_ (by simpa using n') fun a ha => ownW a (by simpa using ha)
            rw [hb0]
            exact ⟨rfl, rfl⟩
        split at e
        · rename_i wr envF ee
          exact ⟨F, _, _, fr, _, envF, R, ee, fun v σ' H' F' fp' fpw ct R' n' d' r' => fin e ct R' n' d' r'⟩
        · rename_i envF ee
          exact ⟨F, _, _, fr, _, envF, R, ee, fun σ' H' F' fp' ct R' => fin (v := .non) (fpw := []) e ct R'.nil .nil (fun _ z => nomatch z) ⟨rfl, rfl⟩⟩
        · cases e
end
end Nb
end
section
set_option maxRecDepth 100000
namespace Nb
open PySem PySem.Spec PyProof.Rows L2
section
variable (t : Tb)
theorem look2_mem : ∀ {l : List (Nat × Nat × Nat)} {x y f : Nat}, look2 l x y = some f → (x, y, f) ∈ l
  | (a, b, g) :: r, x, y, f, h => by
    unfold look2 at h
    split at h
    · rename_i e
      cases h
      rw [← e.1, ← e.2]
      exact List.mem_cons_self
    · exact List.mem_cons_of_mem _ (look2_mem h)
theorem look1_mem : ∀ {l : List (Nat × Nat)} {x f : Nat}, look1 l x = some f → (x, f) ∈ l
  | (a, g) :: r, x, f, h => by
    unfold look1 at h
    split at h
    · rename_i e
      cases h
      rw [← e]
      exact List.mem_cons_self
    · exact List.mem_cons_of_mem _ (look1_mem h)
def Tb.tab : Tab := ⟨look2 t.meth, look1 t.init, fun C f => t.flds.contains (C, f), look1 t.sup, t.fuel⟩
def Tb.ds (i : Nat) : Option Def := t.dd[i]?.map (·.1)
def Tb.pl : Pl := ⟨[], ⟨.function, [], false, false, default⟩, fun _ => true, t.nm, t.free, t.nums, t.glo, (t.cn.zipIdx.map fun q => (q.1, q.2))⟩
def okFn : List He.DefD → List (Def × List Str) → Pl → Bool
  | d :: ds, q :: qs, p => (d.dfl.isEmpty && d.kwd.isEmpty) && (C8.scC q.2 (q.2.take q.1.np) d.scope && (decide ((q.2.take q.1.np).length = q.1.np) && (decide (q.2.length = q.1.ns) && (decide (q.1.nb ≤ 1) && (decide (q.1.nb ≤ q.1.np) &&
      (cSs { p with N := q.2, sc := d.scope, fn := fun _ => true } q.1.body d.body && okFn ds qs p))))))
  | [], [], _ => true
  | _, _, _ => false
def Bd (d : He.DefD) (ps : List Str) : Prop := ∀ (kV doc pm : Value) (an : Option Addr) (cdv ct : Value) (us : List Value), us.length = ps.length → bindArgs (PySem.W.fnOf d.name d.qual d.params d.body d.scope .none kV doc pm an cdv ct) ⟨us, []⟩ = pure (ps.zip us)
def allBd : List He.DefD → List (Def × List Str) → Prop
  | d :: ds, q :: qs => Bd d (q.2.take q.1.np) ∧ allBd ds qs
  | _, _ => True
def noZero (s : Str) : Bool := !(s.cps[0]? == some 0)
def Tb.ok : Bool := decide t.names.Nodup && (t.names.all noZero && ((t.glo.all fun q => decide (t.at_ q.2 = (t.nm q.1, none))) && ((t.meth.all fun q => (decide (q.1 < t.cn.length) && (!t.flds.contains (q.1, q.2.1) && (t.at_ q.2.2).2.isSome))) &&
  ((t.init.all fun q => decide (q.1 < t.cn.length) && (t.at_ q.2).2.isSome) && (t.sup.all fun q => (t.at_ q.2).2.isSome)))))
end
theorem okFn_at : ∀ {ds : List He.DefD} {qs : List (Def × List Str)} {p : Pl} {i : Nat} {q : Def × List Str}, okFn ds qs p = true → qs[i]? = some q → allBd ds qs →
    ∃ d, ds[i]? = some d ∧ d.dfl = [] ∧ d.kwd = [] ∧ C8.scC q.2 (q.2.take q.1.np) d.scope = true ∧ (q.2.take q.1.np).length = q.1.np ∧ q.2.length = q.1.ns ∧ q.1.nb ≤ 1 ∧ q.1.nb ≤ q.1.np ∧ cSs { p with N := q.2, sc := d.scope, fn := fun _ => true } q.1.body d.body = true ∧ Bd d (q.2.take q.1.np)
  | d :: ds, q :: qs, p, i, q', h, hi, hb => by
    unfold okFn at h
    obtain ⟨h1, h⟩ := and2 h
    obtain ⟨h2, h⟩ := and2 h
    obtain ⟨h3, h⟩ := and2 h
    obtain ⟨h4, h⟩ := and2 h
    obtain ⟨h5, h⟩ := and2 h
    obtain ⟨h6, h⟩ := and2 h
    obtain ⟨h7, h⟩ := and2 h
    obtain ⟨h8, h9⟩ := and2 h1
    cases i with
    | zero =>
      have : q = q' := by simpa using hi
      subst this
      exact ⟨d, rfl, List.isEmpty_iff.mp h8, List.isEmpty_iff.mp h9, h2, of_decide_eq_true h3, of_decide_eq_true h4, of_decide_eq_true h5, of_decide_eq_true h6, h7, hb.1⟩
    | succ i =>
      obtain ⟨d', e, r⟩ := okFn_at h (by simpa using hi) hb.2
      exact ⟨d', by simpa using e, r⟩
  | [], [], _, i, _, _, hi, _ => by simp at hi
  | [], _ :: _, _, _, _, h, _, _ => by
    unfold okFn at h
    cases h
  | _ :: _, [], _, i, _, _, hi, _ => by simp at hi
theorem rep_inj {i j : Nat} (h : (⟨Array.replicate (i + 1) 0⟩ : Str) = ⟨Array.replicate (j + 1) 0⟩) : i = j := by
  have h1 : Array.replicate (i + 1) 0 = Array.replicate (j + 1) 0 := congrArg Str.cps h
  have h2 := congrArg Array.size h1
  simp at h2
  exact h2
section
variable {t : Tb} {K : PySem.W.Frag}
theorem Tb.nm_inj (h1 : t.names.Nodup) (h2 : t.names.all noZero = true) : ∀ i j, t.nm i = t.nm j → i = j := fun i j h => by
  have nz : ∀ {s : Str} {k : Nat}, s ∈ t.names → s = ⟨Array.replicate (k + 1) 0⟩ → False := fun {s k} hs e => by
    have := List.all_eq_true.mp h2 s hs
    rw [e] at this
    simp [noZero] at this
  unfold Tb.nm at h
  cases hi : t.names[i]? with
  | none =>
    rw [hi] at h
    cases hj : t.names[j]? with
    | none =>
      rw [hj] at h
      exact rep_inj h
    | some s =>
      rw [hj] at h
      exact (nz (List.mem_of_getElem? hj) h.symm).elim
  | some s =>
    rw [hi] at h
    cases hj : t.names[j]? with
    | none =>
      rw [hj] at h
      exact (nz (List.mem_of_getElem? hi) h).elim
    | some s' =>
      rw [hj] at h
      have h : s = s' := h
      subst h
      obtain ⟨l1, e1⟩ := List.getElem?_eq_some_iff.mp hi
      obtain ⟨l2, e2⟩ := List.getElem?_eq_some_iff.mp hj
      exact (List.getElem_inj h1).mp (e1.trans e2.symm)
def Tb.Fact (t : Tb) (K : PySem.W.Frag) : Prop := ∀ f ∈ t.facts, f.ok K = true
theorem Tb.mem {f : Fb} (h : f ∈ t.facts) (c : t.Fact K) : f.ok K = true := c f h
def Tb.cn_ (t : Tb) (K : PySem.W.Frag) (h1 : t.names.Nodup) (h2 : t.names.all noZero = true) (hf : t.Fact K) : Cn where
  K := K
  nm := t.nm
  ca := fun C => He.ga K (t.cnm C)
  fa := fun i => He.fAd K (t.at_ i)
  okc := fun C => decide (C < t.cn.length)
  okf := fun C f => t.flds.contains (C, f)
  inj := t.nm_inj h1 h2
  cls := fun C h => by
    have hl : C < t.cn.length := of_decide_eq_true h
    have hm : t.cn.getD C t.names.length ∈ t.cn := by
      rw [List.getD_eq_getElem?_getD, List.getElem?_eq_getElem hl]
      exact List.getElem_mem hl
    refine He.cls_ok (hf (.fa (.cls (t.cnm C))) ?_)
    unfold Tb.facts
    refine List.mem_append_right _ (List.mem_append_right _ (List.mem_append_left _ ?_))
    exact List.mem_map.mpr ⟨_, hm, rfl⟩
  noat := fun C f h => by
    refine He.noat_ok (hf (.fa (.noat (t.cnm C) (t.nm f))) ?_)
    unfold Tb.facts
    refine List.mem_append_right _ (List.mem_append_right _ (List.mem_append_right _ (List.mem_append_right _ (List.mem_append_right _ (List.mem_append_right _ (List.mem_append_right _ (List.mem_append_right _ (List.mem_append_right _ (List.mem_append_left _ ?_)))))))))
    exact List.mem_map.mpr ⟨(C, f), List.contains_iff_mem.mp h, rfl⟩
theorem same_ok {x m y m' : Str} (h : (Fb.same x m y m').ok K = true) : He.ma K (He.ga K x) m = He.ma K (He.ga K y) m' := of_decide_eq_true h
theorem Tb.fa_m {i : Nat} (h : (t.at_ i).2.isSome = true) : He.fAd K (t.at_ i) = He.ma K (He.ga K (t.own i)) (t.mth i) := by
  unfold He.fAd Tb.own Tb.mth
  cases q : (t.at_ i).2 with
  | none =>
    rw [q] at h
    cases h
  | some m => rfl
theorem cfn_ok {x m : Str} (h : (Fb.cfn x m).ok K = true) : ClX.CRead K (He.ga K x) (.type "type") ∧ ClX.CVal K (He.ga K x) (.type "type") m (.ref (He.ma K (He.ga K x) m)) (.ref (He.ma K (He.ga K x) m)) := by
  obtain ⟨h1, h2⟩ := and2 h
  obtain ⟨h2, h3⟩ := and2 h2
  refine ⟨⟨h1, of_decide_eq_true h2⟩, ?_, rfl⟩
  split at h3
  · rename_i u e
    rw [e, of_decide_eq_true h3]
  · cases h3
/-- the text's facts, from the head's -/
theorem Tb.txt {P : Program} {w : World} {mg : Str → Option Value} {base h : Heap} (hok : t.ok = true) (hfn : okFn t.fn t.dd t.pl = true) (hbd : allBd t.fn t.dd) (X : K.In h) (G : h.Ns mainGlobals mg) (hf : t.Fact K)
    (hd : ∀ (i : Nat) (d : He.DefD), t.fn[i]? = some d → ∃ fd, FunD K d.name d.qual d.params d.body d.scope (d.dvs K) (d.kws K) (He.fAd K d.at_) fd) :
    ∃ (h1 : t.names.Nodup) (h2 : t.names.all noZero = true), Txt P w mg base (t.cn_ K h1 h2 hf) t.pl t.tab t.ds := by
  obtain ⟨a1, a⟩ := and2 hok
  obtain ⟨a2, a⟩ := and2 a
  obtain ⟨a3, a⟩ := and2 a
  obtain ⟨a4, a⟩ := and2 a
  obtain ⟨a5, a6⟩ := and2 a
  have b1 := of_decide_eq_true a1
  refine ⟨b1, a2, fun i d e => ?_, rfl, fun x hx => ?_, fun q hq => ?_, fun q hq => ?_, fun q hq => ?_, fun C m f e => ?_, fun C f e => ?_, fun C f e => e, fun C f e => ?_⟩
  · obtain ⟨q, e1, e2⟩ := Option.map_eq_some_iff.mp e
    subst e2
    obtain ⟨d, d1, d2, d3, d4, d5, d6, d7, d8, d9, d10⟩ := okFn_at hfn e1 hbd
    obtain ⟨fd, F⟩ := hd i d d1
    have e3 : d.dvs K = [] := by
      unfold He.DefD.dvs
      rw [d2]
      rfl
    have e4 : d.kws K = [] := by
      unfold He.DefD.kws
      rw [d3]
      rfl
    rw [e3, e4] at F
    have e5 : He.fAd K d.at_ = (t.cn_ K b1 a2 hf).fa i := by
      show _ = He.fAd K (t.at_ i)
      unfold Tb.at_
      rw [d1]
    rw [e5] at F
    exact ⟨d.name, d.qual, d.params, d.body, d.scope, q.2, q.2.take q.1.np, fd, F, C8.fnScope_by d4, d5, d6, d7, d8, d9, F.kp, F.bindsN d10⟩
  · refine He.free_ok X G (hf (.fa (.free x)) ?_)
    unfold Tb.facts
    iterate 11 refine List.mem_append_right _ ?_
    exact List.mem_map.mpr ⟨x, List.contains_iff_mem.mp hx, rfl⟩
  · refine He.int_ok X G (hf (.fa (.int (t.nm q.1) q.2)) ?_)
    unfold Tb.facts
    iterate 10 refine List.mem_append_right _ ?_
    exact List.mem_append_left _ (List.mem_map.mpr ⟨q, hq, rfl⟩)
  · have e := of_decide_eq_true (List.all_eq_true.mp a3 q hq)
    show mg (t.nm q.1) = some (.ref (He.fAd K (t.at_ q.2)))
    rw [e]
    refine He.glo_ok X G (hf (.fa (.glo (t.nm q.1))) ?_)
    unfold Tb.facts
    exact List.mem_append_left _ (List.mem_map.mpr ⟨q, hq, rfl⟩)
  · obtain ⟨⟨n, C⟩, hz, hq2⟩ := List.mem_map.mp hq
    subst hq2
    obtain ⟨hC, e0⟩ := List.mem_zipIdx' hz
    have e1 : t.cnm C = t.nm n := by
      unfold Tb.cnm
      rw [List.getD_eq_getElem?_getD, List.getElem?_eq_getElem hC, e0]
      rfl
    show mg (t.nm n) = some (.ref (He.ga K (t.cnm C)))
    rw [e1]
    refine He.glo_ok X G (hf (.fa (.glo (t.nm n))) ?_)
    unfold Tb.facts
    refine List.mem_append_right _ (List.mem_append_left _ (List.mem_map.mpr ⟨n, ?_, rfl⟩))
    rw [e0]
    exact List.getElem_mem hC
  · have hm := look2_mem (show look2 t.meth C m = some f from e)
    obtain ⟨k1, k2⟩ := and2 (List.all_eq_true.mp a4 _ hm)
    obtain ⟨k2, k3⟩ := and2 k2
    refine ⟨?_, (Bool.not_eq_true' _).mp k2, k1⟩
    have g1 := He.meth_ok (hf (.fa (.meth (t.cnm C) (t.nm m))) (by
      unfold Tb.facts
      iterate 3 refine List.mem_append_right _ ?_
      exact List.mem_append_left _ (List.mem_map.mpr ⟨_, hm, rfl⟩)))
    have g2 := same_ok (hf (.same (t.cnm C) (t.nm m) (t.own f) (t.mth f)) (by
      unfold Tb.facts
      iterate 4 refine List.mem_append_right _ ?_
      exact List.mem_append_left _ (List.mem_map.mpr ⟨_, hm, rfl⟩)))
    show Meth K (He.ga K (t.cnm C)) (t.nm m) (He.fAd K (t.at_ f))
    rw [t.fa_m k3, ← g2]
    exact g1
  · have hm := look1_mem (show look1 t.init C = some f from e)
    obtain ⟨k1, k3⟩ := and2 (List.all_eq_true.mp a5 _ hm)
    refine ⟨?_, k1⟩
    have g1 := He.mkr_ok (hf (.fa (.mkr (t.cnm C))) (by
      unfold Tb.facts
      iterate 5 refine List.mem_append_right _ ?_
      exact List.mem_append_left _ (List.mem_map.mpr ⟨_, hm, rfl⟩)))
    have g2 := same_ok (hf (.same (t.cnm C) "__init__" (t.own f) (t.mth f)) (by
      unfold Tb.facts
      iterate 6 refine List.mem_append_right _ ?_
      exact List.mem_append_left _ (List.mem_map.mpr ⟨_, hm, rfl⟩)))
    show Mk K (He.ga K (t.cnm C)) (He.fAd K (t.at_ f))
    rw [t.fa_m k3, ← g2]
    exact g1
  · have hm := look1_mem (show look1 t.sup C = some f from e)
    have k3 := List.all_eq_true.mp a6 _ hm
    have g1 := cfn_ok (hf (.cfn (t.cnm C) "__init__") (by
      unfold Tb.facts
      iterate 7 refine List.mem_append_right _ ?_
      exact List.mem_append_left _ (List.mem_map.mpr ⟨_, hm, rfl⟩)))
    have g2 := same_ok (hf (.same (t.cnm C) "__init__" (t.own f) (t.mth f)) (by
      unfold Tb.facts
      iterate 8 refine List.mem_append_right _ ?_
      exact List.mem_append_left _ (List.mem_map.mpr ⟨_, hm, rfl⟩)))
    show ClX.CRead K (He.ga K (t.cnm C)) (.type "type") ∧ ClX.CVal K (He.ga K (t.cnm C)) (.type "type") "__init__" (.ref (He.fAd K (t.at_ f))) (.ref (He.fAd K (t.at_ f)))
    rw [t.fa_m k3, ← g2]
    exact g1
end
end Nb
end
section
set_option maxRecDepth 100000
namespace Nb
open PySem PySem.Spec PyProof.Rows L2
section
variable {t : Tb}
/-- the law's own def: what stands in the tables -/
structure LawAt (t : Tb) (ln li : Nat) : Prop where
  nm : t.nm ln = "law"
  glo : (ln, li) ∈ t.glo
  def_ : ∃ q, t.dd[li]? = some q ∧ q.1.np = 1 ∧ q.1.nb = 0 ∧ q.2.take 1 = (["script"] : List Str)
/-- the end: the evaluator's word is the law's -/
theorem law_end {P : Program} {w : World} {h : Heap} {mg : Str → Option Value} {f : Addr} {K : PySem.W.Frag} {ln li k n : Nat} (hok : t.ok = true) (hfn : okFn t.fn t.dd t.pl = true) (hbd : allBd t.fn t.dd) (L : LawAt t ln li)
    (hrun : ∀ ns : List Int, ns.length ≤ n → ∃ l, run t.tab t.ds k li [.scr ns] = some (.bl true, l)) (X : K.In h) (G : h.Ns mainGlobals mg) (hfa : mg ("law" : Str) = some (.ref f)) (c : SaysB t.facts t.fn K) :
    ∃ (fd : FuncData) (sp : Sp), (∀ (s : Shared) (u : Value), BindsTo s fd ⟨[u], []⟩ [("script", u)]) ∧ (∀ (H : Hp) (a : Addr) (ns : List Int), ns.length ≤ n → Only H → SqL K H a (ns.map V.int) → sp [.ref a] H (fun v _ => v = .bl true) fun _ _ _ => False) ∧
      ∀ base : Heap, K.In base → base.Ns mainGlobals mg → FnOk P w K mg base CX0 k f fd ["script"] sp := by
  have hf : t.Fact K := fun x hx => c.fact hx
  have hd : ∀ (i : Nat) (d : He.DefD), t.fn[i]? = some d → ∃ fd, FunD K d.name d.qual d.params d.body d.scope (d.dvs K) (d.kws K) (He.fAd K d.at_) fd := fun i d e => c.def_ e
  obtain ⟨q, hq, hnp, hnb, hps⟩ := L.def_
  obtain ⟨d, d1, d2, d3, d4, d5, d6, d7, d8, d9, d10⟩ := okFn_at hfn hq hbd
  obtain ⟨fd, F⟩ := hd li d d1
  have e3 : d.dvs K = [] := by
    unfold He.DefD.dvs
    rw [d2]
    rfl
  have e4 : d.kws K = [] := by
    unfold He.DefD.kws
    rw [d3]
    rfl
  rw [e3, e4] at F
  have eat : t.at_ li = d.at_ := by
    unfold Tb.at_
    rw [d1]
  have ehf : f = He.fAd K d.at_ := by
    obtain ⟨a1, a⟩ := and2 hok
    obtain ⟨a2, a⟩ := and2 a
    obtain ⟨a3, a⟩ := and2 a
    have e := of_decide_eq_true (List.all_eq_true.mp a3 _ L.glo)
    have g := He.glo_ok X G (hf (.fa (.glo (t.nm ln))) (by
      unfold Tb.facts
      exact List.mem_append_left _ (List.mem_map.mpr ⟨_, L.glo, rfl⟩)))
    rw [L.nm] at g e
    rw [hfa] at g
    have g := Value.ref.inj (Option.some.inj g)
    rw [g, ← eat, e]
    rfl
  rw [hnp] at d4 d10
  rw [hps] at d4 d10
  have b1 : t.names.Nodup := of_decide_eq_true (and2 hok).1
  have b2 : t.names.all noZero = true := (and2 (and2 hok).2).1
  refine ⟨fd, spD (t.cn_ K b1 b2 hf) q.1.nb 1 (run t.tab t.ds k li), fun s u => F.bindsA (ps := ["script"]) d10 s [u] rfl, ?_, fun base _ _ => ?_⟩
  rotate_left
  · obtain ⟨h1, h2, T⟩ := t.txt (P := P) (w := w) (base := base) hok hfn hbd X G hf hd
    have e5 : He.fAd K d.at_ = (t.cn_ K b1 b2 hf).fa li := by
      show _ = He.fAd K (t.at_ li)
      rw [eat]
    rw [ehf]
    rw [e5] at F ⊢
    exact levels T k li q.1 (by
      show (t.dd[li]?).map (·.1) = _
      rw [hq]
      rfl) d.name d.qual d.params d.body d.scope q.2 ["script"] fd F (C8.fnScope_by d4) (by rw [hnp]; rfl) d6 d7 d8 d9
  · intro H a ns hl _ hS
    obtain ⟨l, hr⟩ := hrun ns hl
    refine ⟨rfl, H, [.scr ns], [], fun _ => False, .bl true, l, Same.refl H, ⟨.ref a, [], [], [], rfl, rfl, ⟨rfl, a, rfl, hS⟩, rfl, rfl⟩, .nil, (fun _ z => nomatch z), (fun _ z => z.elim), hr, fun v H' F' fpw fpB _ _ _ r _ _ _ => ?_⟩
    exact r.1
end
end Nb
end
section
set_option maxRecDepth 100000
namespace Lk48
open PySem PySem.Spec PyProof.Rows L2
theorem bd0 : Nb.Bd d0 (q0.2.take q0.1.np) := fun _ _ _ _ _ _ us hl => match us, hl with | [_, _], _ => rfl
theorem bd1 : Nb.Bd d1 (q1.2.take q1.1.np) := fun _ _ _ _ _ _ us hl => match us, hl with | [_], _ => rfl
theorem bd2 : Nb.Bd d2 (q2.2.take q2.1.np) := fun _ _ _ _ _ _ us hl => match us, hl with | [_], _ => rfl
theorem bd3 : Nb.Bd d3 (q3.2.take q3.1.np) := fun _ _ _ _ _ _ us hl => match us, hl with | [_, _, _], _ => rfl
theorem bd4 : Nb.Bd d4 (q4.2.take q4.1.np) := fun _ _ _ _ _ _ us hl => match us, hl with | [_, _, _], _ => rfl
theorem bd5 : Nb.Bd d5 (q5.2.take q5.1.np) := fun _ _ _ _ _ _ us hl => match us, hl with | [_, _], _ => rfl
theorem bd6 : Nb.Bd d6 (q6.2.take q6.1.np) := fun _ _ _ _ _ _ us hl => match us, hl with | [_], _ => rfl
theorem bd7 : Nb.Bd d7 (q7.2.take q7.1.np) := fun _ _ _ _ _ _ us hl => match us, hl with | [_], _ => rfl
theorem bd8 : Nb.Bd d8 (q8.2.take q8.1.np) := fun _ _ _ _ _ _ us hl => match us, hl with | [_, _], _ => rfl
theorem bd9 : Nb.Bd d9 (q9.2.take q9.1.np) := fun _ _ _ _ _ _ us hl => match us, hl with | [_, _], _ => rfl
theorem bd10 : Nb.Bd d10 (q10.2.take q10.1.np) := fun _ _ _ _ _ _ us hl => match us, hl with | [_, _], _ => rfl
theorem bd11 : Nb.Bd d11 (q11.2.take q11.1.np) := fun _ _ _ _ _ _ us hl => match us, hl with | [_], _ => rfl
theorem bd12 : Nb.Bd d12 (q12.2.take q12.1.np) := fun _ _ _ _ _ _ us hl => match us, hl with | [_, _], _ => rfl
theorem bd13 : Nb.Bd d13 (q13.2.take q13.1.np) := fun _ _ _ _ _ _ us hl => match us, hl with | [_, _, _], _ => rfl
theorem bd14 : Nb.Bd d14 (q14.2.take q14.1.np) := fun _ _ _ _ _ _ us hl => match us, hl with | [_, _], _ => rfl
theorem bd15 : Nb.Bd d15 (q15.2.take q15.1.np) := fun _ _ _ _ _ _ us hl => match us, hl with | [_], _ => rfl
theorem bd16 : Nb.Bd d16 (q16.2.take q16.1.np) := fun _ _ _ _ _ _ us hl => match us, hl with | [_, _], _ => rfl
theorem bd17 : Nb.Bd d17 (q17.2.take q17.1.np) := fun _ _ _ _ _ _ us hl => match us, hl with | [_], _ => rfl
theorem bd18 : Nb.Bd d18 (q18.2.take q18.1.np) := fun _ _ _ _ _ _ us hl => match us, hl with | [_, _], _ => rfl
theorem bd19 : Nb.Bd d19 (q19.2.take q19.1.np) := fun _ _ _ _ _ _ us hl => match us, hl with | [_, _, _], _ => rfl
theorem bd20 : Nb.Bd d20 (q20.2.take q20.1.np) := fun _ _ _ _ _ _ us hl => match us, hl with | [_, _], _ => rfl
theorem bd21 : Nb.Bd d21 (q21.2.take q21.1.np) := fun _ _ _ _ _ _ us hl => match us, hl with | [_, _], _ => rfl
theorem bd22 : Nb.Bd d22 (q22.2.take q22.1.np) := fun _ _ _ _ _ _ us hl => match us, hl with | [_], _ => rfl
theorem bd23 : Nb.Bd d23 (q23.2.take q23.1.np) := fun _ _ _ _ _ _ us hl => match us, hl with | [_], _ => rfl
theorem bd24 : Nb.Bd d24 (q24.2.take q24.1.np) := fun _ _ _ _ _ _ us hl => match us, hl with | [_, _], _ => rfl
theorem bd25 : Nb.Bd d25 (q25.2.take q25.1.np) := fun _ _ _ _ _ _ us hl => match us, hl with | [_], _ => rfl
theorem bd26 : Nb.Bd d26 (q26.2.take q26.1.np) := fun _ _ _ _ _ _ us hl => match us, hl with | [_, _], _ => rfl
theorem bd27 : Nb.Bd d27 (q27.2.take q27.1.np) := fun _ _ _ _ _ _ us hl => match us, hl with | [_], _ => rfl
theorem bd28 : Nb.Bd d28 (q28.2.take q28.1.np) := fun _ _ _ _ _ _ us hl => match us, hl with | [_], _ => rfl
theorem bd29 : Nb.Bd d29 (q29.2.take q29.1.np) := fun _ _ _ _ _ _ us hl => match us, hl with | [_, _], _ => rfl
theorem bd30 : Nb.Bd d30 (q30.2.take q30.1.np) := fun _ _ _ _ _ _ us hl => match us, hl with | [_], _ => rfl
theorem bd31 : Nb.Bd d31 (q31.2.take q31.1.np) := fun _ _ _ _ _ _ us hl => match us, hl with | [_, _], _ => rfl
theorem bd32 : Nb.Bd d32 (q32.2.take q32.1.np) := fun _ _ _ _ _ _ us hl => match us, hl with | [_], _ => rfl
theorem bd33 : Nb.Bd d33 (q33.2.take q33.1.np) := fun _ _ _ _ _ _ us hl => match us, hl with | [_], _ => rfl
theorem bd34 : Nb.Bd d34 (q34.2.take q34.1.np) := fun _ _ _ _ _ _ us hl => match us, hl with | [_, _], _ => rfl
theorem bd35 : Nb.Bd d35 (q35.2.take q35.1.np) := fun _ _ _ _ _ _ us hl => match us, hl with | [_, _], _ => rfl
theorem bd36 : Nb.Bd d36 (q36.2.take q36.1.np) := fun _ _ _ _ _ _ us hl => match us, hl with | [_], _ => rfl
theorem bd37 : Nb.Bd d37 (q37.2.take q37.1.np) := fun _ _ _ _ _ _ us hl => match us, hl with | [_], _ => rfl
theorem bd38 : Nb.Bd d38 (q38.2.take q38.1.np) := fun _ _ _ _ _ _ us hl => match us, hl with | [_, _], _ => rfl
theorem bd39 : Nb.Bd d39 (q39.2.take q39.1.np) := fun _ _ _ _ _ _ us hl => match us, hl with | [_], _ => rfl
theorem bd40 : Nb.Bd d40 (q40.2.take q40.1.np) := fun _ _ _ _ _ _ us hl => match us, hl with | [_], _ => rfl
theorem bd41 : Nb.Bd d41 (q41.2.take q41.1.np) := fun _ _ _ _ _ _ us hl => match us, hl with | [_, _], _ => rfl
theorem bd42 : Nb.Bd d42 (q42.2.take q42.1.np) := fun _ _ _ _ _ _ us hl => match us, hl with | [_, _, _, _], _ => rfl
theorem bd43 : Nb.Bd d43 (q43.2.take q43.1.np) := fun _ _ _ _ _ _ us hl => match us, hl with | [_], _ => rfl
theorem bd44 : Nb.Bd d44 (q44.2.take q44.1.np) := fun _ _ _ _ _ _ us hl => match us, hl with | [_, _], _ => rfl
theorem bd45 : Nb.Bd d45 (q45.2.take q45.1.np) := fun _ _ _ _ _ _ us hl => match us, hl with | [_, _], _ => rfl
theorem bd46 : Nb.Bd d46 (q46.2.take q46.1.np) := fun _ _ _ _ _ _ us hl => match us, hl with | [_, _], _ => rfl
theorem bd47 : Nb.Bd d47 (q47.2.take q47.1.np) := fun _ _ _ _ _ _ us hl => match us, hl with | [_, _], _ => rfl
theorem bd48 : Nb.Bd d48 (q48.2.take q48.1.np) := fun _ _ _ _ _ _ us hl => match us, hl with | [_, _], _ => rfl
theorem bd49 : Nb.Bd d49 (q49.2.take q49.1.np) := fun _ _ _ _ _ _ us hl => match us, hl with | [_], _ => rfl
theorem bd50 : Nb.Bd d50 (q50.2.take q50.1.np) := fun _ _ _ _ _ _ us hl => match us, hl with | [_, _], _ => rfl
theorem bd51 : Nb.Bd d51 (q51.2.take q51.1.np) := fun _ _ _ _ _ _ us hl => match us, hl with | [_], _ => rfl
theorem bd52 : Nb.Bd d52 (q52.2.take q52.1.np) := fun _ _ _ _ _ _ us hl => match us, hl with | [_, _], _ => rfl
theorem bd53 : Nb.Bd d53 (q53.2.take q53.1.np) := fun _ _ _ _ _ _ us hl => match us, hl with | [_], _ => rfl
theorem bd54 : Nb.Bd d54 (q54.2.take q54.1.np) := fun _ _ _ _ _ _ us hl => match us, hl with | [_], _ => rfl
theorem bds : Nb.allBd t.fn t.dd := ⟨bd0, bd1, bd2, bd3, bd4, bd5, bd6, bd7, bd8, bd9, bd10, bd11, bd12, bd13, bd14, bd15, bd16, bd17, bd18, bd19, bd20, bd21, bd22, bd23, bd24, bd25, bd26, bd27, bd28, bd29, bd30, bd31, bd32, bd33, bd34, bd35, bd36, bd37, bd38, bd39, bd40, bd41, bd42, bd43, bd44, bd45, bd46, bd47, bd48, bd49, bd50, bd51, bd52, bd53, bd54, trivial⟩
theorem ok : t.ok = true := by decide +kernel
theorem okf : Nb.okFn t.fn t.dd t.pl = true := by decide +kernel
theorem lawAt : Nb.LawAt t ln li := ⟨by rfl, by decide +kernel, ⟨_, rfl, by rfl, by rfl, by rfl⟩⟩
end Lk48
end
section
namespace Nb
open PySem
/-! ### the evaluator's words, as asked -/
def Ok {α : Type} (o : Option α) (Q : α → Prop) : Prop := ∃ r, o = some r ∧ Q r
section
variable {α β : Type} {o : Option α} {Q R : α → Prop}
theorem Ok.mono (h : Ok o Q) (k : ∀ r, Q r → R r) : Ok o R := let ⟨r, e, q⟩ := h; ⟨r, e, k r q⟩
theorem ok_some {r : α} : Ok (some r) Q ↔ Q r := ⟨fun ⟨_, e, q⟩ => by cases e; exact q, fun q => ⟨r, rfl, q⟩⟩
theorem ok_none : Ok (none : Option α) Q ↔ False := ⟨fun ⟨_, e, _⟩ => (by cases e), False.elim⟩
theorem ok_guard {b : Bool} : Ok (guardO b o) Q ↔ b = true ∧ Ok o Q := by
  cases b
  · exact ⟨fun ⟨_, e, _⟩ => (by cases e), fun h => (by cases h.1)⟩
  · exact ⟨fun h => ⟨rfl, h⟩, fun h => h.2⟩
theorem ok_map {f : β → α} {o : Option β} : Ok (o.map f) Q ↔ Ok o fun r => Q (f r) := by
  cases o with
  | none => exact ⟨fun ⟨_, e, _⟩ => (by cases e), fun ⟨_, e, _⟩ => (by cases e)⟩
  | some b => exact ⟨fun ⟨_, e, q⟩ => (by cases e; exact ⟨_, rfl, q⟩), fun ⟨_, e, q⟩ => (by cases e; exact ⟨_, rfl, q⟩)⟩
end
section
variable {env : Env} {Q : W → Prop}
theorem okP_peek {i : Nat} : Ok (evP env (.peek i)) Q ↔ Ok (get env i) Q := by rw [evP]
theorem okP_cst {w : W} : Ok (evP env (.cst w)) Q ↔ Q w := by rw [evP]; exact ok_some
theorem okP_glb {n : Nat} {i : Int} : Ok (evP env (.glb n i)) Q ↔ Q (.int i) := by rw [evP]; exact ok_some
theorem okP_un {o : O} {a : P} : Ok (evP env (.un o a)) Q ↔ Ok (evP env a) fun x => Ok (opF o [x]) Q := by
  rw [evP]
  cases e : evP env a with
  | none => exact ⟨fun h => (ok_none.mp h).elim, fun h => (ok_none.mp h).elim⟩
  | some x =>
    show Ok (opF o [x]) Q ↔ _
    rw [ok_some]
theorem okP_bi {o : O} {a b : P} : Ok (evP env (.bi o a b)) Q ↔ Ok (evP env a) fun x => Ok (evP env b) fun y => Ok (opF o [x, y]) Q := by
  rw [evP]
  cases e : evP env a with
  | none => exact ⟨fun h => (ok_none.mp h).elim, fun h => (ok_none.mp h).elim⟩
  | some x =>
    rw [ok_some]
    cases e2 : evP env b with
    | none => exact ⟨fun h => (ok_none.mp h).elim, fun h => (ok_none.mp h).elim⟩
    | some y =>
      show Ok (opF o [x, y]) Q ↔ _
      rw [ok_some]
/-- a test's two ways -/
def Two (w : W) (A B : Prop) : Prop := ∃ b, w = .bl b ∧ (b = true → A) ∧ (b = false → B)
theorem two_bl {b : Bool} {A B : Prop} : Two (.bl b) A B ↔ (b = true → A) ∧ (b = false → B) := ⟨fun ⟨_, e, h⟩ => by cases e; exact h, fun h => ⟨b, rfl, h⟩⟩
theorem okP_and {a b : P} : Ok (evP env (.and_ a b)) Q ↔ Ok (evP env a) fun x => Two x (Ok (evP env b) Q) (Q (.bl false)) := by
  rw [evP]
  cases e : evP env a with
  | none => exact ⟨fun h => (ok_none.mp h).elim, fun h => (ok_none.mp h).elim⟩
  | some x =>
    rw [ok_some]
    cases x <;> first | exact ⟨fun h => (ok_none.mp h).elim, fun ⟨_, h, _⟩ => (by cases h)⟩ | skip
    rename_i c
    rw [two_bl]
    cases c
    · exact ⟨fun h => ⟨fun z => (by cases z), fun _ => ok_some.mp h⟩, fun h => ok_some.mpr (h.2 rfl)⟩
    · exact ⟨fun h => ⟨fun _ => h, fun z => (by cases z)⟩, fun h => h.1 rfl⟩
theorem okP_or {a b : P} : Ok (evP env (.or_ a b)) Q ↔ Ok (evP env a) fun x => Two x (Q (.bl true)) (Ok (evP env b) Q) := by
  rw [evP]
  cases e : evP env a with
  | none => exact ⟨fun h => (ok_none.mp h).elim, fun h => (ok_none.mp h).elim⟩
  | some x =>
    rw [ok_some]
    cases x <;> first | exact ⟨fun h => (ok_none.mp h).elim, fun ⟨_, h, _⟩ => (by cases h)⟩ | skip
    rename_i c
    rw [two_bl]
    cases c
    · exact ⟨fun h => ⟨fun z => (by cases z), fun _ => h⟩, fun h => h.2 rfl⟩
    · exact ⟨fun h => ⟨fun _ => ok_some.mp h, fun z => (by cases z)⟩, fun h => ok_some.mpr (h.1 rfl)⟩
theorem okP_not {a : P} : Ok (evP env (.not_ a)) Q ↔ Ok (evP env a) fun x => Two x (Q (.bl false)) (Q (.bl true)) := by
  rw [evP]
  cases e : evP env a with
  | none => exact ⟨fun h => (ok_none.mp h).elim, fun h => (ok_none.mp h).elim⟩
  | some x =>
    rw [ok_some]
    cases x <;> first | exact ⟨fun h => (ok_none.mp h).elim, fun ⟨_, h, _⟩ => (by cases h)⟩ | skip
    rename_i c
    rw [two_bl]
    cases c
    · exact ⟨fun h => ⟨fun z => (by cases z), fun _ => ok_some.mp h⟩, fun h => ok_some.mpr (h.2 rfl)⟩
    · exact ⟨fun h => ⟨fun _ => ok_some.mp h, fun z => (by cases z)⟩, fun h => ok_some.mpr (h.1 rfl)⟩
theorem okP_ife {t a b : P} : Ok (evP env (.ife t a b)) Q ↔ Ok (evP env t) fun x => Two x (Ok (evP env a) Q) (Ok (evP env b) Q) := by
  rw [evP]
  cases e : evP env t with
  | none => exact ⟨fun h => (ok_none.mp h).elim, fun h => (ok_none.mp h).elim⟩
  | some x =>
    rw [ok_some]
    cases x <;> first | exact ⟨fun h => (ok_none.mp h).elim, fun ⟨_, h, _⟩ => (by cases h)⟩ | skip
    rename_i c
    rw [two_bl]
    cases c
    · exact ⟨fun h => ⟨fun z => (by cases z), fun _ => h⟩, fun h => h.2 rfl⟩
    · exact ⟨fun h => ⟨fun _ => h, fun z => (by cases z)⟩, fun h => h.1 rfl⟩
end
end Nb
namespace Nb
open PySem
section
variable {T : Tab} {call make : Cal} {n : Nat} {env : Env} {Q : W × Env → Prop} {QL : List W × Env → Prop}
theorem ok_n {α β : Type} {Q : α → Prop} {R : β → Prop} : Ok (none : Option α) Q ↔ Ok (none : Option β) R := ⟨fun h => (ok_none.mp h).elim, fun h => (ok_none.mp h).elim⟩
theorem okE_pv {p : P} : Ok (evE T call make (.pv p) env) Q ↔ Ok (evP env p) fun w => w.isF = true ∧ Q (w, env) := by
  rw [evE]
  cases e : evP env p with
  | none => exact ok_n
  | some w =>
    show Ok (guardO w.isF (some (w, env))) Q ↔ _
    rw [ok_some, ok_guard, ok_some]
theorem okE_var {i : Nat} : Ok (evE T call make (.var i) env) Q ↔ Ok (get env i) fun w => (w.isF = true → Q (w, env)) ∧ (w.isF = false → Q (w.frz, env.set i (some w.frz))) := by
  rw [evE]
  cases e : get env i with
  | none => exact ok_n
  | some w =>
    rw [ok_some]
    show Ok (match w.isF with | true => some (w, env) | false => some (w.frz, env.set i (some w.frz))) Q ↔ _
    cases w.isF
    · rw [ok_some]
      exact ⟨fun h => ⟨fun z => (by cases z), fun _ => h⟩, fun h => h.2 rfl⟩
    · rw [ok_some]
      exact ⟨fun h => ⟨fun _ => h, fun z => (by cases z)⟩, fun h => h.1 rfl⟩
theorem okE_un {o : O} {a : E} : Ok (evE T call make (.un o a) env) Q ↔ Ok (evE T call make a env) fun r => Ok (opE o [r.1]) fun w => Q (w, r.2) := by
  rw [evE]
  cases e : evE T call make a env with
  | none => exact ok_n
  | some r =>
    obtain ⟨x, env1⟩ := r
    rw [ok_some]
    show Ok (match opE o [x] with | some w => some (w, env1) | none => none) Q ↔ _
    cases e2 : opE o [x] with
    | none => exact ok_n
    | some w => rw [ok_some, ok_some]
theorem okE_bi {o : O} {a b : E} : Ok (evE T call make (.bi o a b) env) Q ↔ Ok (evE T call make a env) fun r => Ok (evE T call make b r.2) fun q => Ok (opE o [r.1, q.1]) fun w => Q (w, q.2) := by
  rw [evE]
  cases e : evE T call make a env with
  | none => exact ok_n
  | some r =>
    obtain ⟨x, env1⟩ := r
    rw [ok_some]
    show Ok (match evE T call make b env1 with | some (y, env2) => (match opE o [x, y] with | some w => some (w, env2) | none => none) | none => none) Q ↔ _
    cases e2 : evE T call make b env1 with
    | none => exact ok_n
    | some q =>
      obtain ⟨y, env2⟩ := q
      rw [ok_some]
      show Ok (match opE o [x, y] with | some w => some (w, env2) | none => none) Q ↔ _
      cases e3 : opE o [x, y] with
      | none => exact ok_n
      | some w => rw [ok_some, ok_some]
theorem okE_ds {o : O} {as : E} : Ok (evE T call make (.ds o as) env) Q ↔ Ok (evL T call make as env) fun r => Ok (opD o r.1) fun w => Q (w, r.2) := by
  rw [evE]
  cases e : evL T call make as env with
  | none => exact ok_n
  | some r =>
    obtain ⟨x, env1⟩ := r
    rw [ok_some]
    show Ok (match opD o x with | some w => some (w, env1) | none => none) Q ↔ _
    cases e2 : opD o x with
    | none => exact ok_n
    | some w => rw [ok_some, ok_some]
theorem okL_nil : Ok (evL T call make .nil env) QL ↔ QL ([], env) := by rw [evL]; exact ok_some
theorem okL_cons {a r : E} : Ok (evL T call make (.cons a r) env) QL ↔ Ok (evE T call make a env) fun x => Ok (evL T call make r x.2) fun y => QL (x.1 :: y.1, y.2) := by
  rw [evL]
  cases e : evE T call make a env with
  | none => exact ok_n
  | some x =>
    obtain ⟨w, env1⟩ := x
    rw [ok_some]
    show Ok (match evL T call make r env1 with | some (ws, env2) => some (w :: ws, env2) | none => none) QL ↔ _
    cases e2 : evL T call make r env1 with
    | none => exact ok_n
    | some y => rw [ok_some, ok_some]
theorem okE_not {a : E} : Ok (evE T call make (.not_ a) env) Q ↔ Ok (evE T call make a env) fun r => Two r.1 (Q (.bl false, r.2)) (Q (.bl true, r.2)) := by
  rw [evE]
  cases e : evE T call make a env with
  | none => exact ok_n
  | some r =>
    obtain ⟨x, env1⟩ := r
    rw [ok_some]
    cases x <;> first | exact ⟨fun h => (ok_none.mp h).elim, fun ⟨_, h, _⟩ => (by cases h)⟩ | skip
    rename_i c
    rw [two_bl]
    cases c
    · exact ⟨fun h => ⟨fun z => (by cases z), fun _ => ok_some.mp h⟩, fun h => ok_some.mpr (h.2 rfl)⟩
    · exact ⟨fun h => ⟨fun _ => ok_some.mp h, fun z => (by cases z)⟩, fun h => ok_some.mpr (h.1 rfl)⟩
theorem okE_and {a b : E} : Ok (evE T call make (.and_ a b) env) Q ↔ Ok (evE T call make a env) fun r => Two r.1 (Ok (evE T call make b r.2) Q) (Q (.bl false, r.2)) := by
  rw [evE]
  cases e : evE T call make a env with
  | none => exact ok_n
  | some r =>
    obtain ⟨x, env1⟩ := r
    rw [ok_some]
    cases x <;> first | exact ⟨fun h => (ok_none.mp h).elim, fun ⟨_, h, _⟩ => (by cases h)⟩ | skip
    rename_i c
    rw [two_bl]
    cases c
    · exact ⟨fun h => ⟨fun z => (by cases z), fun _ => ok_some.mp h⟩, fun h => ok_some.mpr (h.2 rfl)⟩
    · exact ⟨fun h => ⟨fun _ => h, fun z => (by cases z)⟩, fun h => h.1 rfl⟩
theorem okE_or {a b : E} : Ok (evE T call make (.or_ a b) env) Q ↔ Ok (evE T call make a env) fun r => Two r.1 (Q (.bl true, r.2)) (Ok (evE T call make b r.2) Q) := by
  rw [evE]
  cases e : evE T call make a env with
  | none => exact ok_n
  | some r =>
    obtain ⟨x, env1⟩ := r
    rw [ok_some]
    cases x <;> first | exact ⟨fun h => (ok_none.mp h).elim, fun ⟨_, h, _⟩ => (by cases h)⟩ | skip
    rename_i c
    rw [two_bl]
    cases c
    · exact ⟨fun h => ⟨fun z => (by cases z), fun _ => h⟩, fun h => h.2 rfl⟩
    · exact ⟨fun h => ⟨fun _ => ok_some.mp h, fun z => (by cases z)⟩, fun h => ok_some.mpr (h.1 rfl)⟩
theorem okE_ife {t a b : E} : Ok (evE T call make (.ife t a b) env) Q ↔ Ok (evE T call make t env) fun r => Two r.1 (Ok (evE T call make a r.2) Q) (Ok (evE T call make b r.2) Q) := by
  rw [evE]
  cases e : evE T call make t env with
  | none => exact ok_n
  | some r =>
    obtain ⟨x, env1⟩ := r
    rw [ok_some]
    cases x <;> first | exact ⟨fun h => (ok_none.mp h).elim, fun ⟨_, h, _⟩ => (by cases h)⟩ | skip
    rename_i c
    rw [two_bl]
    cases c
    · exact ⟨fun h => ⟨fun z => (by cases z), fun _ => h⟩, fun h => h.2 rfl⟩
    · exact ⟨fun h => ⟨fun _ => h, fun z => (by cases z)⟩, fun h => h.1 rfl⟩
theorem okE_cal {f : Nat} {as : E} : Ok (evE T call make (.cal f as) env) Q ↔ Ok (evL T call make as env) fun r => Ok (call f (frzs r.1)) fun q => Q (q.1, r.2) := by
  rw [evE]
  cases e : evL T call make as env with
  | none => exact ok_n
  | some r =>
    obtain ⟨x, env1⟩ := r
    rw [ok_some]
    show Ok (match call f (frzs x) with | some (w, _) => some (w, env1) | none => none) Q ↔ _
    cases e2 : call f (frzs x) with
    | none => exact ok_n
    | some w => rw [ok_some, ok_some]
theorem ok_lend {x : Option (W × List W)} {i : Nat} : Ok (lend x i env) Q ↔ Ok x fun q => ∃ w0, q.2 = [w0] ∧ Q (q.1, env.set i (some w0)) := by
  cases x with
  | none => exact ok_n
  | some q =>
    obtain ⟨w, l⟩ := q
    rw [ok_some]
    rcases l with _ | ⟨a, _ | ⟨b, l⟩⟩
    · exact ⟨fun h => (ok_none.mp h).elim, fun ⟨_, h, _⟩ => (by cases h)⟩
    · exact ⟨fun h => ⟨a, rfl, ok_some.mp h⟩, fun ⟨w0, h, q⟩ => (by cases h; exact ok_some.mpr q)⟩
    · exact ⟨fun h => (ok_none.mp h).elim, fun ⟨_, h, _⟩ => (by cases h)⟩
end
end Nb
end
section
namespace Nb
open PySem
/-- what follows a statement -/
def Thn (r : Fl × Env) (A : Env → Prop) (B : Fl × Env → Prop) : Prop := match r.1 with
  | .next => A r.2
  | _ => B r
section
variable {T : Tab} {call make : Cal} {n : Nat} {env : Env} {Q : Fl × Env → Prop}
theorem okS_pass : Ok (evS T call make n .pass env) Q ↔ Q (.next, env) := by rw [evS]; exact ok_some
theorem okS_brk : Ok (evS T call make n .brk env) Q ↔ Q (.brk, env) := by rw [evS]; exact ok_some
theorem okS_cont : Ok (evS T call make n .cont env) Q ↔ Q (.cont, env) := by rw [evS]; exact ok_some
theorem okS_nil : Ok (evS T call make n .nil env) Q ↔ Q (.next, env) := by rw [evS]; exact ok_some
theorem okS_expr {e : E} : Ok (evS T call make n (.expr e) env) Q ↔ Ok (evE T call make e env) fun r => Q (.next, r.2) := by
  rw [evS]
  cases h : evE T call make e env with
  | none => exact ok_n
  | some r => rw [ok_some, ok_some]
theorem okS_ret {e : E} : Ok (evS T call make n (.ret e) env) Q ↔ Ok (evE T call make e env) fun r => Q (.ret r.1, r.2) := by
  rw [evS]
  cases h : evE T call make e env with
  | none => exact ok_n
  | some r => rw [ok_some, ok_some]
theorem okS_asg {g : G} {e : E} : Ok (evS T call make n (.asg g e) env) Q ↔ Ok (evE T call make e env) fun r => Ok (asg n g [r.1] r.2) fun env2 => Q (.next, env2) := by
  rw [evS]
  cases h : evE T call make e env with
  | none => exact ok_n
  | some r =>
    obtain ⟨w, env1⟩ := r
    rw [ok_some]
    exact ok_map
theorem okS_iff {t : E} {a b : S} : Ok (evS T call make n (.iff t a b) env) Q ↔ Ok (evE T call make t env) fun r => Two r.1 (Ok (evS T call make n a r.2) Q) (Ok (evS T call make n b r.2) Q) := by
  rw [evS]
  cases e : evE T call make t env with
  | none => exact ok_n
  | some r =>
    obtain ⟨x, env1⟩ := r
    rw [ok_some]
    cases x <;> first | exact ⟨fun h => (ok_none.mp h).elim, fun ⟨_, h, _⟩ => (by cases h)⟩ | skip
    rename_i c
    rw [two_bl]
    cases c
    · exact ⟨fun h => ⟨fun z => (by cases z), fun _ => h⟩, fun h => h.2 rfl⟩
    · exact ⟨fun h => ⟨fun _ => h, fun z => (by cases z)⟩, fun h => h.1 rfl⟩
theorem okS_cons {a r : S} : Ok (evS T call make n (.cons a r) env) Q ↔ Ok (evS T call make n a env) fun x => Thn x (fun env1 => Ok (evS T call make n r env1) Q) Q := by
  rw [evS]
  cases e : evS T call make n a env with
  | none => exact ok_n
  | some x =>
    obtain ⟨fl, env1⟩ := x
    rw [ok_some]
    cases fl
    · rfl
    · exact ok_some
    · exact ok_some
    · exact ok_some
/-- while, by a word of the state and a measure -/
theorem ok_while {test : Env → Option (W × Env)} {body : Env → Rs} (I : Env → Prop) (mu : Env → Nat) (step : ∀ env, I env → Ok (test env) fun r => Two r.1 (Ok (body r.2) fun x => match x.1 with
    | .next => I x.2 ∧ mu x.2 < mu env
    | .cont => I x.2 ∧ mu x.2 < mu env
    | .brk => Q (.next, x.2)
    | .ret w => Q (.ret w, x.2)) (Q (.next, r.2))) : ∀ (m : Nat) (env : Env), I env → mu env < m → Ok (loopW test body m env) Q
  | 0, env, _, h => absurd h (Nat.not_lt_zero _)
  | m + 1, env, hi, h => by
    obtain ⟨⟨w, env1⟩, e1, b, e2, h1, h2⟩ := step env hi
    have e2 : w = .bl b := e2
    subst e2
    unfold loopW
    rw [e1]
    cases b with
    | false => exact ok_some.mpr (h2 rfl)
    | true =>
      obtain ⟨⟨fl, env2⟩, e3, h3⟩ := h1 rfl
      have e3 : body env1 = some (fl, env2) := e3
      show Ok (match body env1 with
        | some (.next, env2) => loopW test body m env2
        | some (.cont, env2) => loopW test body m env2
        | some (.brk, env2) => some (.next, env2)
        | some (.ret w, env2) => some (.ret w, env2)
        | none => none) Q
      rw [e3]
      cases fl with
      | next => exact ok_while I mu step m env2 h3.1 (by have h4 : mu env2 < mu env := h3.2; omega)
      | cont => exact ok_while I mu step m env2 h3.1 (by have h4 : mu env2 < mu env := h3.2; omega)
      | brk => exact ok_some.mpr h3
      | ret w => exact ok_some.mpr h3
theorem okS_whl {t : E} {b : S} : Ok (evS T call make n (.whl t b) env) Q ↔ Ok (loopW (evE T call make t) (evS T call make n b) T.fuel env) Q := by rw [evS]
theorem okS_for {k : K} {g : G} {it : E} {b : S} : Ok (evS T call make n (.for_ k g it b) env) Q ↔ Ok (evL T call make it env) fun r => Ok (items k (frzs r.1)) fun xs => Ok (loopF (fun x e => asg n g [x] e) (evS T call make n b) xs r.2) Q := by
  rw [evS]
  cases e : evL T call make it env with
  | none => exact ok_n
  | some r =>
    obtain ⟨x, env1⟩ := r
    rw [ok_some]
    show Ok (match items k (frzs x) with | some xs => loopF (fun x e => asg n g [x] e) (evS T call make n b) xs env1 | none => none) Q ↔ _
    cases e2 : items k (frzs x) with
    | none => exact ok_n
    | some xs => rw [ok_some]
/-- for, by a word of the items walked -/
theorem ok_for {bind : W → Env → Option Env} {body : Env → Rs} (I : List W → Env → Prop) (hend : ∀ env, I [] env → Q (.next, env)) (step : ∀ x xs env, I (x :: xs) env → Ok (bind x env) fun env1 => Ok (body env1) fun r => match r.1 with
    | .next => I xs r.2
    | .cont => I xs r.2
    | .brk => Q (.next, r.2)
    | .ret w => Q (.ret w, r.2)) : ∀ (xs : List W) (env : Env), I xs env → Ok (loopF bind body xs env) Q
  | [], env, h => by
    unfold loopF
    exact ok_some.mpr (hend env h)
  | x :: xs, env, h => by
    obtain ⟨env1, e1, ⟨fl, env2⟩, e2, h2⟩ := step x xs env h
    unfold loopF
    rw [e1]
    show Ok (match body env1 with
      | some (.next, env2) => loopF bind body xs env2
      | some (.cont, env2) => loopF bind body xs env2
      | some (.brk, env2) => some (.next, env2)
      | some (.ret w, env2) => some (.ret w, env2)
      | none => none) Q
    rw [e2]
    cases fl with
    | next => exact ok_for I hend step xs env2 h2
    | cont => exact ok_for I hend step xs env2 h2
    | brk => exact ok_some.mpr h2
    | ret w => exact ok_some.mpr h2
end
def mkOf (T : Tab) (ds : Nat → Option Def) (k : Nat) : Cal := match k with
  | 0 => fun _ _ => none
  | j + 1 => run T ds j
/-- a def's word -/
theorem ok_run {T : Tab} {ds : Nat → Option Def} {k i : Nat} {d : Def} {ws : List W} {Q : W × List W → Prop} (hd : ds i = some d) (hl : ws.length = d.np) (h : Ok (evS T (run T ds k) (mkOf T ds k) d.nb d.body (ws.map some ++ List.replicate (d.ns - d.np) none)) fun r => match r.1 with
    | .ret w => Ok (lent d.nb r.2) fun l => Q (w, l)
    | .next => Ok (lent d.nb r.2) fun l => Q (.non, l)
    | _ => False) : Ok (run T ds (k + 1) i ws) Q := by
  obtain ⟨⟨fl, env⟩, e, h⟩ := h
  unfold run
  rw [hd]
  show Ok (runD T (run T ds k) (mkOf T ds k) d ws) Q
  unfold runD
  simp only [decide_eq_true hl]
  rw [e]
  cases fl with
  | ret w => exact ok_map.mpr h
  | next => exact ok_map.mpr h
  | brk => exact h.elim
  | cont => exact h.elim
end Nb
end
section
namespace Nb
open PySem
section
variable {T : Tab} {call make : Cal} {n : Nat} {env : Env} {Q : W × Env → Prop}
theorem okE_cab {f i : Nat} {as : E} : Ok (evE T call make (.cab f i as) env) Q ↔ Ok (get env i) fun _ => Ok (evL T call make as env) fun r => Ok (get r.2 i) fun w => Ok (call f (w :: frzs r.1)) fun q => ∃ w0, q.2 = [w0] ∧ Q (q.1, r.2.set i (some w0)) := by
  rw [evE]
  cases e : get env i with
  | none => exact ok_n
  | some w0 =>
    rw [ok_some]
    show Ok (match evL T call make as env with | some (ws, env1) => (match get env1 i with | some w => lend (call f (w :: frzs ws)) i env1 | none => none) | none => none) Q ↔ _
    cases e1 : evL T call make as env with
    | none => exact ok_n
    | some r =>
      obtain ⟨ws, env1⟩ := r
      rw [ok_some]
      show Ok (match get env1 i with | some w => lend (call f (w :: frzs ws)) i env1 | none => none) Q ↔ _
      cases e2 : get env1 i with
      | none => exact ok_n
      | some w =>
        rw [ok_some]
        exact ok_lend
theorem okE_sup {D : Nat} {as : E} : Ok (evE T call make (.sup D as) env) Q ↔ Ok (get env 0) fun _ => Ok (evL T call make as env) fun r => Ok (get r.2 0) fun w => Ok (T.sup D) fun f => Ok (call f (w :: frzs r.1)) fun q => ∃ w0, q.2 = [w0] ∧ Q (q.1, r.2.set 0 (some w0)) := by
  rw [evE]
  cases e : get env 0 with
  | none => exact ok_n
  | some w0 =>
    rw [ok_some]
    show Ok (match evL T call make as env with | some (ws, env1) => (match get env1 0 with | some w => (match T.sup D with | some f => lend (call f (w :: frzs ws)) 0 env1 | none => none) | none => none) | none => none) Q ↔ _
    cases e1 : evL T call make as env with
    | none => exact ok_n
    | some r =>
      obtain ⟨ws, env1⟩ := r
      rw [ok_some]
      show Ok (match get env1 0 with | some w => (match T.sup D with | some f => lend (call f (w :: frzs ws)) 0 env1 | none => none) | none => none) Q ↔ _
      cases e2 : get env1 0 with
      | none => exact ok_n
      | some w =>
        rw [ok_some]
        show Ok (match T.sup D with | some f => lend (call f (w :: frzs ws)) 0 env1 | none => none) Q ↔ _
        cases e3 : T.sup D with
        | none => exact ok_n
        | some f =>
          rw [ok_some]
          exact ok_lend
/-- an instance's class -/
def clsW : W → Option Nat
  | .ins _ c _ _ => some c
  | _ => none
theorem okE_mtv {m : Nat} {a as : E} : Ok (evE T call make (.mtv m a as) env) Q ↔ Ok (evE T call make a env) fun o => Ok (evL T call make as o.2) fun r => Ok (clsW o.1.frz) fun c => Ok (T.meth c m) fun f => Ok (call f (o.1.frz :: frzs r.1)) fun q => Q (q.1, r.2) := by
  rw [evE]
  cases e : evE T call make a env with
  | none => exact ok_n
  | some o =>
    obtain ⟨ow, env0⟩ := o
    rw [ok_some]
    show Ok (match evL T call make as env0 with | some (ws, env2) => (match ow.frz with | .ins p c fs us => (match T.meth c m with | some f => (match call f (.ins p c fs us :: frzs ws) with | some (w, _) => some (w, env2) | none => none) | none => none) | _ => none) | none => none) Q ↔ _
    cases e1 : evL T call make as env0 with
    | none => exact ok_n
    | some r =>
      obtain ⟨ws, env1⟩ := r
      rw [ok_some]
      show Ok (match ow.frz with | .ins p c fs us => (match T.meth c m with | some f => (match call f (.ins p c fs us :: frzs ws) with | some (w, _) => some (w, env1) | none => none) | none => none) | _ => none) Q ↔ _
      cases e2 : ow.frz <;> first | exact ok_n | skip
      rename_i p c fs us
      show Ok (match T.meth c m with | some f => (match call f (.ins p c fs us :: frzs ws) with | some (w, _) => some (w, env1) | none => none) | none => none) Q ↔ Ok (some c) _
      rw [ok_some]
      cases e3 : T.meth c m with
      | none => exact ok_n
      | some f =>
        rw [ok_some]
        show Ok (match call f (.ins p c fs us :: frzs ws) with | some (w, _) => some (w, env1) | none => none) Q ↔ _
        cases e4 : call f (.ins p c fs us :: frzs ws) with
        | none => exact ok_n
        | some q => rw [ok_some, ok_some]
theorem okE_mtb {m i : Nat} {as : E} : Ok (evE T call make (.mtb m i as) env) Q ↔ Ok (get env i) fun o => Ok (clsW o) fun c => Ok (T.meth c m) fun f => Ok (evL T call make as env) fun r => Ok (get r.2 i) fun w => Ok (call f (w :: frzs r.1)) fun q => ∃ w0, q.2 = [w0] ∧ Q (q.1, r.2.set i (some w0)) := by
  rw [evE]
  cases e : get env i with
  | none => exact ok_n
  | some o =>
    rw [ok_some]
    cases o <;> first | exact ok_n | skip
    rename_i p c fs us
    show Ok (match T.meth c m with | some f => (match evL T call make as env with | some (ws, env1) => (match get env1 i with | some w => lend (call f (w :: frzs ws)) i env1 | none => none) | none => none) | none => none) Q ↔ Ok (some c) _
    rw [ok_some]
    cases e3 : T.meth c m with
    | none => exact ok_n
    | some f =>
      rw [ok_some]
      show Ok (match evL T call make as env with | some (ws, env1) => (match get env1 i with | some w => lend (call f (w :: frzs ws)) i env1 | none => none) | none => none) Q ↔ _
      cases e1 : evL T call make as env with
      | none => exact ok_n
      | some r =>
        obtain ⟨ws, env1⟩ := r
        rw [ok_some]
        show Ok (match get env1 i with | some w => lend (call f (w :: frzs ws)) i env1 | none => none) Q ↔ _
        cases e2 : get env1 i with
        | none => exact ok_n
        | some w =>
          rw [ok_some]
          exact ok_lend
theorem okE_mak {D : Nat} {as : E} : Ok (evE T call make (.mak D as) env) Q ↔ Ok (evL T call make as env) fun r => Ok (T.init D) fun f => Ok (make f (.ins true D [] [] :: frzs r.1)) fun q => ∃ w, q = (.non, [w]) ∧ Q (w, r.2) := by
  rw [evE]
  cases e1 : evL T call make as env with
  | none => exact ok_n
  | some r =>
    obtain ⟨ws, env1⟩ := r
    rw [ok_some]
    show Ok (match T.init D with | some f => (match make f (.ins true D [] [] :: frzs ws) with | some (.non, [w]) => some (w, env1) | _ => none) | none => none) Q ↔ _
    cases e3 : T.init D with
    | none => exact ok_n
    | some f =>
      rw [ok_some]
      show Ok (match make f (.ins true D [] [] :: frzs ws) with | some (.non, [w]) => some (w, env1) | _ => none) Q ↔ _
      cases e4 : make f (.ins true D [] [] :: frzs ws) with
      | none => exact ok_n
      | some q =>
        rw [ok_some]
        obtain ⟨v, l⟩ := q
        constructor
        · intro h
          split at h
          · rename_i w h2
            cases h2
            exact ⟨w, rfl, ok_some.mp h⟩
          · exact (ok_none.mp h).elim
        · rintro ⟨w, h, q⟩
          cases h
          exact ok_some.mpr q
theorem okE_lcp {k : K} {own : List Nat} {g : G} {it t a : E} : Ok (evE T call make (.lcp k own g it t a) env) Q ↔ Ok (evL T call make it env) fun r => Ok (items k (frzs r.1)) fun xs => xs.length ≤ 1000000 ∧
    Ok (compL (fun x e => asg 0 g [x] e) (evE T call make t) (evE T call make a) own xs (wipeE r.2 own) []) fun q => Q (.lst true q.1, backE r.2 q.2 own) := by
  rw [evE]
  cases e1 : evL T call make it env with
  | none => exact ok_n
  | some r =>
    obtain ⟨ws, env1⟩ := r
    rw [ok_some]
    show Ok (match items k (frzs ws) with | some xs => (match decide (xs.length ≤ 1000000) with | true => (match compL (fun x e => asg 0 g [x] e) (evE T call make t) (evE T call make a) own xs (wipeE env1 own) [] with | some (acc, env2) => some (.lst true acc, backE env1 env2 own) | none => none) | false => none) | none => none) Q ↔ _
    cases e2 : items k (frzs ws) with
    | none => exact ok_n
    | some xs =>
      rw [ok_some]
      show Ok (match decide (xs.length ≤ 1000000) with | true => (match compL (fun x e => asg 0 g [x] e) (evE T call make t) (evE T call make a) own xs (wipeE env1 own) [] with | some (acc, env2) => some (.lst true acc, backE env1 env2 own) | none => none) | false => none) Q ↔ _
      by_cases h : xs.length ≤ 1000000
      · rw [decide_eq_true h]
        show Ok (match compL (fun x e => asg 0 g [x] e) (evE T call make t) (evE T call make a) own xs (wipeE env1 own) [] with | some (acc, env2) => some (.lst true acc, backE env1 env2 own) | none => none) Q ↔ _
        cases e3 : compL (fun x e => asg 0 g [x] e) (evE T call make t) (evE T call make a) own xs (wipeE env1 own) [] with
        | none => exact ⟨fun h => (ok_none.mp h).elim, fun h => (ok_none.mp h.2).elim⟩
        | some q =>
          rw [ok_some]
          exact ⟨fun z => ⟨h, ok_some.mpr z⟩, fun z => (by have h9 := ok_some.mp z.2; exact h9)⟩
      · rw [decide_eq_false h]
        exact ⟨fun h => (ok_none.mp h).elim, fun z => absurd z.1 h⟩
theorem ok_comp {bind : W → Env → Option Env} {test elt : Env → Option (W × Env)} {own : List Nat} {x : W} {xs : List W} {acc : List W} {Q : List W × Env → Prop} : Ok (compL bind test elt own (x :: xs) env acc) Q ↔ Ok (bind x env) fun env1 => Ok (test env1) fun r => Two r.1 (Ok (elt r.2) fun q => Ok (compL bind test elt own xs (wipeE q.2 own) (acc ++ [q.1])) Q) (Ok (compL bind test elt own xs (wipeE r.2 own) acc) Q) := by
  rw [compL]
  cases e1 : bind x env with
  | none => exact ok_n
  | some env1 =>
    rw [ok_some]
    cases e2 : test env1 with
    | none => simp only [e2]; exact ok_n
    | some r =>
      obtain ⟨w, env2⟩ := r
      rw [ok_some]
      simp only [e2]
      cases w <;> first | exact ⟨fun h => (ok_none.mp h).elim, fun ⟨_, h, _⟩ => (by cases h)⟩ | skip
      rename_i c
      rw [two_bl]
      cases c
      · exact ⟨fun h => ⟨fun z => (by cases z), fun _ => h⟩, fun h => h.2 rfl⟩
      · refine Iff.trans ?_ ⟨fun h => ⟨fun _ => h, fun z => (by cases z)⟩, fun h => h.1 rfl⟩
        show Ok (match elt env2 with | some (w, env3) => compL bind test elt own xs (wipeE env3 own) (acc ++ [w]) | none => none) Q ↔ _
        cases e3 : elt env2 with
        | none => exact ok_n
        | some q => rw [ok_some]
end
end Nb
end
section
namespace Nb
open PySem
/-! ### more levels say no less -/
def Le (c c' : Cal) : Prop := ∀ f ws r, c f ws = some r → c' f ws = some r
theorem Ok.up {α : Type} {o o' : Option α} {Q R : α → Prop} (h : Ok o Q) (k : ∀ r, o = some r → o' = some r) (q : ∀ r, Q r → R r) : Ok o' R := let ⟨r, e, z⟩ := h; ⟨r, k r e, q r z⟩
theorem up_of {α : Type} {o o' : Option α} (h : ∀ Q : α → Prop, Ok o Q → Ok o' Q) : ∀ r, o = some r → o' = some r := fun r e => by
  obtain ⟨r', e1, e2⟩ := h (fun x => x = r) ⟨r, e, rfl⟩
  rw [e1, e2]
theorem Two.up {w : W} {A B A' B' : Prop} (h : Two w A B) (a : A → A') (b : B → B') : Two w A' B' := let ⟨c, e, h1, h2⟩ := h; ⟨c, e, fun z => a (h1 z), fun z => b (h2 z)⟩
section
variable {T : Tab} {c c' m m' : Cal} {n : Nat}
theorem comp_up {bind : W → Env → Option Env} {t t' a a' : Env → Option (W × Env)} {own : List Nat} (ht : ∀ env r, t env = some r → t' env = some r) (ha : ∀ env r, a env = some r → a' env = some r) : ∀ (xs : List W) (env : Env) (acc : List W) (Q : List W × Env → Prop), Ok (compL bind t a own xs env acc) Q → Ok (compL bind t' a' own xs env acc) Q
  | [], env, acc, Q, h => by
    unfold compL at h ⊢
    exact h
  | x :: xs, env, acc, Q, h => by
    rw [ok_comp] at h ⊢
    refine h.mono fun env1 h => h.up (ht env1) fun r h => h.up (fun h => h.up (ha r.2) fun q h => comp_up ht ha xs _ _ Q h) fun h => comp_up ht ha xs _ _ Q h
theorem E_up (hc : Le c c') (hm : Le m m') : ∀ e : E, (∀ env r, evE T c m e env = some r → evE T c' m' e env = some r) ∧ (∀ env r, evL T c m e env = some r → evL T c' m' e env = some r) := by
  intro e
  have noL : ∀ {e : E} {env : Env} {r : List W × Env}, evL T c m e env = some r → (∀ a r, e ≠ .cons a r) → e ≠ .nil → False := fun {e env r} h h1 h2 => by
    cases e <;> first | exact absurd rfl h2 | exact absurd rfl (h1 _ _) | (unfold evL at h; cases h)
  induction e with
  | pv p => exact ⟨fun env => up_of fun Q h => by rw [okE_pv] at h ⊢; exact h, fun env r h => (noL h (fun _ _ z => nomatch z) (fun z => nomatch z)).elim⟩
  | var i => exact ⟨fun env => up_of fun Q h => by rw [okE_var] at h ⊢; exact h, fun env r h => (noL h (fun _ _ z => nomatch z) (fun z => nomatch z)).elim⟩
  | un o a ih => exact ⟨fun env => up_of fun Q h => by rw [okE_un] at h ⊢; exact h.up (ih.1 env) fun r h => h, fun env r h => (noL h (fun _ _ z => nomatch z) (fun z => nomatch z)).elim⟩
  | bi o a b iha ihb => exact ⟨fun env => up_of fun Q h => by rw [okE_bi] at h ⊢; exact h.up (iha.1 env) fun r h => h.up (ihb.1 r.2) fun r h => h, fun env r h => (noL h (fun _ _ z => nomatch z) (fun z => nomatch z)).elim⟩
  | ds o as ih => exact ⟨fun env => up_of fun Q h => by rw [okE_ds] at h ⊢; exact h.up (ih.2 env) fun r h => h, fun env r h => (noL h (fun _ _ z => nomatch z) (fun z => nomatch z)).elim⟩
  | nil => exact ⟨fun env r h => (by unfold evE at h; cases h), fun env => up_of fun Q h => by rw [okL_nil] at h ⊢; exact h⟩
  | cons a r iha ihr => exact ⟨fun env r h => (by unfold evE at h; cases h), fun env => up_of fun Q h => by rw [okL_cons] at h ⊢; exact h.up (iha.1 env) fun x h => h.up (ihr.2 x.2) fun r h => h⟩
  | and_ a b iha ihb => exact ⟨fun env => up_of fun Q h => by rw [okE_and] at h ⊢; exact h.up (iha.1 env) fun r h => h.up (fun h => h.up (ihb.1 r.2) fun r h => h) id, fun env r h => (noL h (fun _ _ z => nomatch z) (fun z => nomatch z)).elim⟩
  | or_ a b iha ihb => exact ⟨fun env => up_of fun Q h => by rw [okE_or] at h ⊢; exact h.up (iha.1 env) fun r h => h.up id (fun h => h.up (ihb.1 r.2) fun r h => h), fun env r h => (noL h (fun _ _ z => nomatch z) (fun z => nomatch z)).elim⟩
  | not_ a ih => exact ⟨fun env => up_of fun Q h => by rw [okE_not] at h ⊢; exact h.up (ih.1 env) fun r h => h, fun env r h => (noL h (fun _ _ z => nomatch z) (fun z => nomatch z)).elim⟩
  | ife t a b iht iha ihb => exact ⟨fun env => up_of fun Q h => by rw [okE_ife] at h ⊢; exact h.up (iht.1 env) fun r h => h.up (fun h => h.up (iha.1 r.2) fun r h => h) (fun h => h.up (ihb.1 r.2) fun r h => h), fun env r h => (noL h (fun _ _ z => nomatch z) (fun z => nomatch z)).elim⟩
  | cal f as ih => exact ⟨fun env => up_of fun Q h => by rw [okE_cal] at h ⊢; exact h.up (ih.2 env) fun r h => h.up (hc f _) fun q h => h, fun env r h => (noL h (fun _ _ z => nomatch z) (fun z => nomatch z)).elim⟩
  | cab f i as ih => exact ⟨fun env => up_of fun Q h => by rw [okE_cab] at h ⊢; exact h.mono fun _ h => h.up (ih.2 env) fun r h => h.mono fun w h => h.up (hc f _) fun q h => h, fun env r h => (noL h (fun _ _ z => nomatch z) (fun z => nomatch z)).elim⟩
  | mtv k a as iha ih => exact ⟨fun env => up_of fun Q h => by rw [okE_mtv] at h ⊢; exact h.up (iha.1 env) fun o h => h.up (ih.2 o.2) fun r h => h.mono fun c h => h.mono fun f h => h.up (hc f _) fun q h => h, fun env r h => (noL h (fun _ _ z => nomatch z) (fun z => nomatch z)).elim⟩
  | mtb k i as ih => exact ⟨fun env => up_of fun Q h => by rw [okE_mtb] at h ⊢; exact h.mono fun o h => h.mono fun c h => h.mono fun f h => h.up (ih.2 env) fun r h => h.mono fun w h => h.up (hc f _) fun q h => h, fun env r h => (noL h (fun _ _ z => nomatch z) (fun z => nomatch z)).elim⟩
  | mak D as ih => exact ⟨fun env => up_of fun Q h => by rw [okE_mak] at h ⊢; exact h.up (ih.2 env) fun r h => h.mono fun f h => h.up (hm f _) fun q h => h, fun env r h => (noL h (fun _ _ z => nomatch z) (fun z => nomatch z)).elim⟩
  | sup D as ih => exact ⟨fun env => up_of fun Q h => by rw [okE_sup] at h ⊢; exact h.mono fun _ h => h.up (ih.2 env) fun r h => h.mono fun w h => h.mono fun f h => h.up (hc f _) fun q h => h, fun env r h => (noL h (fun _ _ z => nomatch z) (fun z => nomatch z)).elim⟩
  | lcp k own g it t a ihi iht iha => exact ⟨fun env => up_of fun Q h => by rw [okE_lcp] at h ⊢; exact h.up (ihi.2 env) fun r h => h.mono fun xs h => ⟨h.1, comp_up iht.1 iha.1 xs _ _ _ h.2⟩, fun env r h => (noL h (fun _ _ z => nomatch z) (fun z => nomatch z)).elim⟩
  | yes => exact ⟨fun env r h => (by unfold evE at h ⊢; exact h), fun env r h => (noL h (fun _ _ z => nomatch z) (fun z => nomatch z)).elim⟩
def isLst : W → Bool
  | .lst _ _ => true
  | _ => false
theorem ok_mut1 {k : M} {ws : List W} {l : List Ac} {i : Nat} {env : Env} {Q : Fl × Env → Prop} : Ok (mut1 T k ws l i env) Q ↔ Ok (get env i) fun w => Ok (updP (mutF T.fld k ws) l w) fun w1 => Q (.next, env.set i (some w1)) := by
  unfold mut1
  cases e : get env i with
  | none => exact ok_n
  | some w =>
    rw [ok_some]
    show Ok (match updP (mutF T.fld k ws) l w with | some w1 => some (.next, env.set i (some w1)) | none => none) Q ↔ _
    cases e2 : updP (mutF T.fld k ws) l w with
    | none => exact ok_n
    | some w1 => rw [ok_some, ok_some]
theorem okS_mut {k : M} {i : Nat} {pa : Pa} {as : E} {env : Env} {Q : Fl × Env → Prop} : Ok (evS T c m n (.mut k i pa as) env) Q ↔ Ok (evPa env pa) fun l => Ok (get env i) fun w0 => Ok (subP l w0) fun x => isLst x = true ∧ Ok (evL T c m as env) fun r => Ok (mut1 T k r.1 l i r.2) Q := by
  rw [evS]
  cases e1 : evPa env pa with
  | none => exact ok_n
  | some l =>
    rw [ok_some]
    cases e2 : get env i with
    | none => exact ok_n
    | some w0 =>
      rw [ok_some]
      show Ok (match subP l w0 with | some (.lst _ _) => (match evL T c m as env with | some (ws, env1) => mut1 T k ws l i env1 | none => none) | _ => none) Q ↔ _
      cases e3 : subP l w0 with
      | none => exact ok_n
      | some x =>
        rw [ok_some]
        cases x <;> first | exact ⟨fun h => (ok_none.mp h).elim, fun h => (by cases h.1)⟩ | skip
        show Ok (match evL T c m as env with | some (ws, env1) => mut1 T k ws l i env1 | none => none) Q ↔ _
        cases e4 : evL T c m as env with
        | none => exact ⟨fun h => (ok_none.mp h).elim, fun h => (ok_none.mp h.2).elim⟩
        | some r =>
          rw [ok_some]
          exact ⟨fun h => ⟨rfl, h⟩, fun h => h.2⟩
theorem okS_seti {i : Nat} {pa : Pa} {k : P} {a : E} {env : Env} {Q : Fl × Env → Prop} : Ok (evS T c m n (.seti i pa k a) env) Q ↔ Ok (evE T c m a env) fun r => Ok (evPa r.2 pa) fun l => Ok (evP r.2 k) fun kw => Ok (mut1 T .seti [kw, r.1] l i r.2) Q := by
  rw [evS]
  cases e1 : evE T c m a env with
  | none => exact ok_n
  | some r =>
    obtain ⟨w, env1⟩ := r
    rw [ok_some]
    show Ok (match evPa env1 pa, evP env1 k with | some l, some kw => mut1 T .seti [kw, w] l i env1 | _, _ => none) Q ↔ _
    cases e2 : evPa env1 pa with
    | none => exact ok_n
    | some l =>
      rw [ok_some]
      cases e3 : evP env1 k with
      | none => exact ok_n
      | some kw => rw [ok_some]
theorem okS_setf {i : Nat} {pa : Pa} {f : Nat} {a : E} {env : Env} {Q : Fl × Env → Prop} : Ok (evS T c m n (.setf i pa f a) env) Q ↔ Ok (evE T c m a env) fun r => Ok (evPa r.2 pa) fun l => Ok (mut1 T (.setf f) [r.1] l i r.2) Q := by
  rw [evS]
  cases e1 : evE T c m a env with
  | none => exact ok_n
  | some r =>
    obtain ⟨w, env1⟩ := r
    rw [ok_some]
    show Ok (match evPa env1 pa with | some l => mut1 T (.setf f) [w] l i env1 | none => none) Q ↔ _
    cases e2 : evPa env1 pa with
    | none => exact ok_n
    | some l => rw [ok_some]
theorem okS_aug {o : O} {i : Nat} {a : E} {env : Env} {Q : Fl × Env → Prop} : Ok (evS T c m n (.aug o i a) env) Q ↔ Ok (get env i) fun _ => Ok (evE T c m a env) fun r => Ok (get r.2 i) fun x => Ok (opF o [x, r.1.frz]) fun y => Ok (asg n (.var i) [y] r.2) fun env2 => Q (.next, env2) := by
  rw [evS]
  cases h : get env i with
  | none => exact ok_n
  | some w0 =>
    rw [ok_some]
    cases e1 : evE T c m a env with
    | none => exact ok_n
    | some r =>
      obtain ⟨w, env1⟩ := r
      rw [ok_some]
      show Ok (match get env1 i with | some x => (match opF o [x, w.frz] with | some y => (asg n (.var i) [y] env1).map fun env2 => (Fl.next, env2) | none => none) | none => none) Q ↔ _
      cases e2 : get env1 i with
      | none => exact ok_n
      | some x =>
        rw [ok_some]
        show Ok (match opF o [x, w.frz] with | some y => (asg n (.var i) [y] env1).map fun env2 => (Fl.next, env2) | none => none) Q ↔ _
        cases e3 : opF o [x, w.frz] with
        | none => exact ok_n
        | some y =>
          rw [ok_some]
          exact ok_map
theorem loopW_up {t t' : Env → Option (W × Env)} {b b' : Env → Rs} (ht : ∀ env r, t env = some r → t' env = some r) (hb : ∀ env r, b env = some r → b' env = some r) : ∀ (k : Nat) (env : Env) (r : Fl × Env), loopW t b k env = some r → loopW t' b' k env = some r
  | 0, env, r, h => by
    unfold loopW at h
    cases h
  | k + 1, env, r, h => by
    unfold loopW at h ⊢
    split at h
    · rename_i env1 e1
      rw [ht _ _ e1]
      try simp only
      split at h
      · rename_i env2 e2
        rw [hb _ _ e2]
        exact loopW_up ht hb k _ _ h
      · rename_i env2 e2
        rw [hb _ _ e2]
        exact loopW_up ht hb k _ _ h
      · rename_i env2 e2
        rw [hb _ _ e2]
        exact h
      · rename_i w env2 e2
        rw [hb _ _ e2]
        exact h
      · cases h
    · rename_i env1 e1
      rw [ht _ _ e1]
      exact h
    · cases h
theorem loopF_up {bind : W → Env → Option Env} {b b' : Env → Rs} (hb : ∀ env r, b env = some r → b' env = some r) : ∀ (xs : List W) (env : Env) (r : Fl × Env), loopF bind b xs env = some r → loopF bind b' xs env = some r
  | [], env, r, h => by
    unfold loopF at h ⊢
    exact h
  | x :: xs, env, r, h => by
    unfold loopF at h ⊢
    split at h
    · rename_i env1 e1
      split at h
      · rename_i env2 e2
        rw [hb _ _ e2]
        exact loopF_up hb xs _ _ h
      · rename_i env2 e2
        rw [hb _ _ e2]
        exact loopF_up hb xs _ _ h
      · rename_i env2 e2
        rw [hb _ _ e2]
        exact h
      · rename_i w env2 e2
        rw [hb _ _ e2]
        exact h
      · cases h
    · cases h
theorem S_up (hc : Le c c') (hm : Le m m') : ∀ s : S, ∀ env r, evS T c m n s env = some r → evS T c' m' n s env = some r := by
  intro s
  induction s with
  | pass => exact fun env r h => by unfold evS at h ⊢; exact h
  | brk => exact fun env r h => by unfold evS at h ⊢; exact h
  | cont => exact fun env r h => by unfold evS at h ⊢; exact h
  | stuck => exact fun env r h => by unfold evS at h ⊢; exact h
  | nil => exact fun env r h => by unfold evS at h ⊢; exact h
  | expr e => exact fun env => up_of fun Q h => by rw [okS_expr] at h ⊢; exact h.up ((E_up hc hm e).1 env) fun r h => h
  | ret e => exact fun env => up_of fun Q h => by rw [okS_ret] at h ⊢; exact h.up ((E_up hc hm e).1 env) fun r h => h
  | asg g e => exact fun env => up_of fun Q h => by rw [okS_asg] at h ⊢; exact h.up ((E_up hc hm e).1 env) fun r h => h
  | iff t a b iha ihb => exact fun env => up_of fun Q h => by rw [okS_iff] at h ⊢; exact h.up ((E_up hc hm t).1 env) fun r h => h.up (fun h => h.up (iha r.2) fun r h => h) (fun h => h.up (ihb r.2) fun r h => h)
  | whl t b ih => exact fun env => up_of fun Q h => by rw [okS_whl] at h ⊢; exact h.up (loopW_up (E_up hc hm t).1 ih _ env) fun r h => h
  | for_ k g it b ih => exact fun env => up_of fun Q h => by rw [okS_for] at h ⊢; exact h.up ((E_up hc hm it).2 env) fun r h => h.mono fun xs h => h.up (loopF_up ih xs r.2) fun r h => h
  | aug o i e => exact fun env => up_of fun Q h => by rw [okS_aug] at h ⊢; exact h.mono fun _ h => h.up ((E_up hc hm e).1 env) fun r h => h
  | «mut» k i pa as => exact fun env => up_of fun Q h => by rw [okS_mut] at h ⊢; exact h.mono fun l h => h.mono fun w h => h.mono fun x h => ⟨h.1, h.2.up ((E_up hc hm as).2 env) fun r h => h⟩
  | seti i pa k e => exact fun env => up_of fun Q h => by rw [okS_seti] at h ⊢; exact h.up ((E_up hc hm e).1 env) fun r h => h
  | setf i pa f e => exact fun env => up_of fun Q h => by rw [okS_setf] at h ⊢; exact h.up ((E_up hc hm e).1 env) fun r h => h
  | cons a r iha ihr =>
    intro env
    refine up_of fun Q h => ?_
    rw [okS_cons] at h ⊢
    refine h.up (iha env) fun x h => ?_
    obtain ⟨fl, env1⟩ := x
    cases fl with
    | next => exact Ok.up (Q := Q) h (ihr env1) fun r h => h
    | brk => exact h
    | cont => exact h
    | ret w => exact h
end
theorem run_up {T : Tab} {ds : Nat → Option Def} : ∀ k : Nat, Le (run T ds k) (run T ds (k + 1)) ∧ Le (mkOf T ds k) (mkOf T ds (k + 1))
  | 0 => ⟨fun f ws r h => (by unfold run at h; cases h), fun f ws r h => (by cases h)⟩
  | k + 1 => by
    obtain ⟨h1, h2⟩ := run_up (T := T) (ds := ds) k
    refine ⟨fun f ws r h => ?_, h1⟩
    unfold run at h ⊢
    cases hd : ds f with
    | none =>
      rw [hd] at h
      cases h
    | some d =>
      rw [hd] at h
      have h : runD T (run T ds k) (mkOf T ds k) d ws = some r := h
      show runD T (run T ds (k + 1)) (mkOf T ds (k + 1)) d ws = some r
      unfold runD at h ⊢
      split at h
      · rename_i hl
        split at h
        · rename_i w env e
          rw [S_up h1 h2 _ _ _ e]
          exact h
        · rename_i env e
          rw [S_up h1 h2 _ _ _ e]
          exact h
        · cases h
      · cases h
theorem run_le {T : Tab} {ds : Nat → Option Def} {k j : Nat} (h : k ≤ j) : Le (run T ds k) (run T ds j) := by
  induction h with
  | refl => exact fun _ _ _ h => h
  | step _ ih => exact fun f ws r e => (run_up _).1 f ws r (ih f ws r e)
end Nb
end
section
set_option maxRecDepth 100000
namespace Nb
/-! ### forms for simp: what comes after is an instance, so simp looks at what is asked first -/
class Ct (α : Type) where
  q : α → Prop
class Br where
  a : Prop
  b : Prop
class Bt where
  a : Env → Prop
  b : Fl × Env → Prop
def Kk {α : Type} (o : Option α) [c : Ct α] : Prop := Ok o c.q
def Tw (w : W) [c : Br] : Prop := Two w c.a c.b
def Th (r : Fl × Env) [c : Bt] : Prop := Thn r c.a c.b
def If2 (b : Bool) [c : Br] : Prop := match b with
  | true => c.a
  | false => c.b
def One (l : List W) [c : Ct W] : Prop := ∃ w, l = [w] ∧ c.q w
def Mkd (q : W × List W) [c : Ct W] : Prop := ∃ w, q = (.non, [w]) ∧ c.q w
theorem kk {α : Type} {o : Option α} {Q : α → Prop} : Ok o Q ↔ @Kk _ o ⟨Q⟩ := Iff.rfl
theorem tk {w : W} {A B : Prop} : Two w A B ↔ @Tw w ⟨A, B⟩ := Iff.rfl
theorem thk {r : Fl × Env} {A : Env → Prop} {B : Fl × Env → Prop} : Thn r A B ↔ @Th r ⟨A, B⟩ := Iff.rfl
theorem q_eq {α : Type} {Q : α → Prop} {x : α} : @Ct.q α ⟨Q⟩ x = Q x := rfl
theorem k_some {α : Type} {r : α} {Q : α → Prop} : @Kk _ (some r) ⟨Q⟩ ↔ Q r := ok_some
theorem k_guard {α : Type} {b : Bool} {o : Option α} {Q : α → Prop} : @Kk _ (guardO b o) ⟨Q⟩ ↔ b = true ∧ @Kk _ o ⟨Q⟩ := ok_guard
theorem tw_t {A B : Prop} : @Tw (.bl true) ⟨A, B⟩ ↔ A := by
  show Two _ _ _ ↔ _
  rw [two_bl]
  exact ⟨fun h => h.1 rfl, fun h => ⟨fun _ => h, fun z => (by cases z)⟩⟩
theorem tw_f {A B : Prop} : @Tw (.bl false) ⟨A, B⟩ ↔ B := by
  show Two _ _ _ ↔ _
  rw [two_bl]
  exact ⟨fun h => h.2 rfl, fun h => ⟨fun z => (by cases z), fun _ => h⟩⟩
theorem tw_bl {b : Bool} {A B : Prop} : @Tw (.bl b) ⟨A, B⟩ ↔ (b = true → A) ∧ (b = false → B) := two_bl
theorem tw_dec {p : Prop} [Decidable p] {A B : Prop} : @Tw (.bl (decide p)) ⟨A, B⟩ ↔ (p → A) ∧ (¬p → B) := by
  rw [tw_bl]
  simp
theorem tw_eq {i j : Int} {A B : Prop} : @Tw (.bl (i == j)) ⟨A, B⟩ ↔ (i = j → A) ∧ (i ≠ j → B) := by
  rw [tw_bl]
  simp
theorem tw_ne {i j : Int} {A B : Prop} : @Tw (.bl (!(i == j))) ⟨A, B⟩ ↔ (i ≠ j → A) ∧ (i = j → B) := by
  rw [tw_bl]
  simp
theorem th_next {e : Env} {A : Env → Prop} {B : Fl × Env → Prop} : @Th (.next, e) ⟨A, B⟩ ↔ A e := Iff.rfl
theorem th_ret {e : Env} {w : W} {A : Env → Prop} {B : Fl × Env → Prop} : @Th (.ret w, e) ⟨A, B⟩ ↔ B (.ret w, e) := Iff.rfl
theorem th_brk {e : Env} {A : Env → Prop} {B : Fl × Env → Prop} : @Th (.brk, e) ⟨A, B⟩ ↔ B (.brk, e) := Iff.rfl
theorem th_cont {e : Env} {A : Env → Prop} {B : Fl × Env → Prop} : @Th (.cont, e) ⟨A, B⟩ ↔ B (.cont, e) := Iff.rfl
theorem if2_t {A B : Prop} : @If2 true ⟨A, B⟩ ↔ A := Iff.rfl
theorem if2_f {A B : Prop} : @If2 false ⟨A, B⟩ ↔ B := Iff.rfl
theorem one_eq {x : W} {Q : W → Prop} : @One [x] ⟨Q⟩ ↔ Q x := by
  constructor
  · rintro ⟨w, e, h⟩
    cases e
    exact h
  · exact fun h => ⟨x, rfl, h⟩
theorem mkd_eq {x : W} {Q : W → Prop} : @Mkd (.non, [x]) ⟨Q⟩ ↔ Q x := by
  constructor
  · rintro ⟨w, e, h⟩
    cases e
    exact h
  · exact fun h => ⟨x, rfl, h⟩
section
variable {T : Tab} {c m : Cal} {n : Nat} {env : Env} {Q : W × Env → Prop}
theorem v_var0 {i : Nat} : Ok (evE T c m (.var i) env) Q ↔ Ok (get env i) fun w => @If2 w.isF ⟨Q (w, env), Q (w.frz, env.set i (some w.frz))⟩ := by
  rw [okE_var]
  constructor
  · exact fun h => h.mono fun w h => by
      cases e : w.isF with
      | true => exact h.1 e
      | false => exact h.2 e
  · exact fun h => h.mono fun w h => by
      cases e : w.isF with
      | true =>
        rw [e] at h
        exact ⟨fun _ => h, fun z => (by cases z)⟩
      | false =>
        rw [e] at h
        exact ⟨fun z => (by cases z), fun _ => h⟩

theorem v_pv {p : P} : @Kk _ (evE T c m (.pv p) env) ⟨Q⟩ ↔ @Kk _ (evP env p) ⟨fun w => w.isF = true ∧ @Kk _ (some (w, env)) ⟨Q⟩⟩ := by
  show Ok _ Q ↔ Ok (evP env p) fun w => w.isF = true ∧ Ok (some (w, env)) Q
  simp only [ok_some]
  exact okE_pv
theorem v_var {i : Nat} : @Kk _ (evE T c m (.var i) env) ⟨Q⟩ ↔ @Kk _ (get env i) ⟨fun w => @If2 w.isF ⟨@Kk _ (some (w, env)) ⟨Q⟩, @Kk _ (some (w.frz, env.set i (some w.frz))) ⟨Q⟩⟩⟩ := by
  show Ok _ Q ↔ Ok (get env i) fun w => @If2 w.isF ⟨Ok (some (w, env)) Q, Ok (some (w.frz, env.set i (some w.frz))) Q⟩
  refine v_var0.trans ⟨fun h => h.mono fun w z => ?_, fun h => h.mono fun w z => ?_⟩
  · revert z
    cases w.isF with
    | true => exact fun z => (ok_some (Q := Q)).mpr z
    | false => exact fun z => (ok_some (Q := Q)).mpr z
  · revert z
    cases w.isF with
    | true => exact fun z => (ok_some (Q := Q)).mp z
    | false => exact fun z => (ok_some (Q := Q)).mp z
theorem v_un {o : O} {a : E} : @Kk _ (evE T c m (.un o a) env) ⟨Q⟩ ↔ @Kk _ (evE T c m a env) ⟨fun r => @Kk _ (opE o [r.1]) ⟨fun w => @Kk _ (some (w, r.2)) ⟨Q⟩⟩⟩ := by
  show Ok _ Q ↔ Ok (evE T c m a env) fun r => Ok (opE o [r.1]) fun w => Ok (some (w, r.2)) Q
  simp only [ok_some]
  exact okE_un
theorem v_bi {o : O} {a b : E} : @Kk _ (evE T c m (.bi o a b) env) ⟨Q⟩ ↔ @Kk _ (evE T c m a env) ⟨fun r => @Kk _ (evE T c m b r.2) ⟨fun q => @Kk _ (opE o [r.1, q.1]) ⟨fun w => @Kk _ (some (w, q.2)) ⟨Q⟩⟩⟩⟩ := by
  show Ok _ Q ↔ Ok (evE T c m a env) fun r => Ok (evE T c m b r.2) fun q => Ok (opE o [r.1, q.1]) fun w => Ok (some (w, q.2)) Q
  simp only [ok_some]
  exact okE_bi
theorem v_ds {o : O} {as : E} : @Kk _ (evE T c m (.ds o as) env) ⟨Q⟩ ↔ @Kk _ (evL T c m as env) ⟨fun r => @Kk _ (opD o r.1) ⟨fun w => @Kk _ (some (w, r.2)) ⟨Q⟩⟩⟩ := by
  show Ok _ Q ↔ Ok (evL T c m as env) fun r => Ok (opD o r.1) fun w => Ok (some (w, r.2)) Q
  simp only [ok_some]
  exact okE_ds
theorem v_nil {Q : List W × Env → Prop} : @Kk _ (evL T c m .nil env) ⟨Q⟩ ↔ @Kk _ (some ([], env)) ⟨Q⟩ := by
  show Ok _ Q ↔ Ok (some ([], env)) Q
  simp only [ok_some]
  exact okL_nil
theorem v_cons {a r : E} {Q : List W × Env → Prop} : @Kk _ (evL T c m (.cons a r) env) ⟨Q⟩ ↔ @Kk _ (evE T c m a env) ⟨fun x => @Kk _ (evL T c m r x.2) ⟨fun y => @Kk _ (some (x.1 :: y.1, y.2)) ⟨Q⟩⟩⟩ := by
  show Ok _ Q ↔ Ok (evE T c m a env) fun x => Ok (evL T c m r x.2) fun y => Ok (some (x.1 :: y.1, y.2)) Q
  simp only [ok_some]
  exact okL_cons
theorem v_not {a : E} : @Kk _ (evE T c m (.not_ a) env) ⟨Q⟩ ↔ @Kk _ (evE T c m a env) ⟨fun r => @Tw r.1 ⟨@Kk _ (some (.bl false, r.2)) ⟨Q⟩, @Kk _ (some (.bl true, r.2)) ⟨Q⟩⟩⟩ := by
  show Ok _ Q ↔ Ok (evE T c m a env) fun r => Two r.1 (Ok (some (.bl false, r.2)) Q) (Ok (some (.bl true, r.2)) Q)
  simp only [ok_some]
  exact okE_not
theorem v_and {a b : E} : @Kk _ (evE T c m (.and_ a b) env) ⟨Q⟩ ↔ @Kk _ (evE T c m a env) ⟨fun r => @Tw r.1 ⟨@Kk _ (evE T c m b r.2) ⟨Q⟩, @Kk _ (some (.bl false, r.2)) ⟨Q⟩⟩⟩ := by
  show Ok _ Q ↔ Ok (evE T c m a env) fun r => Two r.1 (Ok (evE T c m b r.2) Q) (Ok (some (.bl false, r.2)) Q)
  simp only [ok_some]
  exact okE_and
theorem v_or {a b : E} : @Kk _ (evE T c m (.or_ a b) env) ⟨Q⟩ ↔ @Kk _ (evE T c m a env) ⟨fun r => @Tw r.1 ⟨@Kk _ (some (.bl true, r.2)) ⟨Q⟩, @Kk _ (evE T c m b r.2) ⟨Q⟩⟩⟩ := by
  show Ok _ Q ↔ Ok (evE T c m a env) fun r => Two r.1 (Ok (some (.bl true, r.2)) Q) (Ok (evE T c m b r.2) Q)
  simp only [ok_some]
  exact okE_or
theorem v_ife {t a b : E} : @Kk _ (evE T c m (.ife t a b) env) ⟨Q⟩ ↔ @Kk _ (evE T c m t env) ⟨fun r => @Tw r.1 ⟨@Kk _ (evE T c m a r.2) ⟨Q⟩, @Kk _ (evE T c m b r.2) ⟨Q⟩⟩⟩ := okE_ife
theorem v_cal {f : Nat} {as : E} : @Kk _ (evE T c m (.cal f as) env) ⟨Q⟩ ↔ @Kk _ (evL T c m as env) ⟨fun r => @Kk _ (c f (frzs r.1)) ⟨fun q => @Kk _ (some (q.1, r.2)) ⟨Q⟩⟩⟩ := by
  show Ok _ Q ↔ Ok (evL T c m as env) fun r => Ok (c f (frzs r.1)) fun q => Ok (some (q.1, r.2)) Q
  simp only [ok_some]
  exact okE_cal
theorem v_mtv {k : Nat} {a as : E} : @Kk _ (evE T c m (.mtv k a as) env) ⟨Q⟩ ↔ @Kk _ (evE T c m a env) ⟨fun o => @Kk _ (evL T c m as o.2) ⟨fun r => @Kk _ (clsW o.1.frz) ⟨fun d => @Kk _ (T.meth d k) ⟨fun f => @Kk _ (c f (o.1.frz :: frzs r.1)) ⟨fun q => @Kk _ (some (q.1, r.2)) ⟨Q⟩⟩⟩⟩⟩⟩ := by
  show Ok _ Q ↔ Ok (evE T c m a env) fun o => Ok (evL T c m as o.2) fun r => Ok (clsW o.1.frz) fun d => Ok (T.meth d k) fun f => Ok (c f (o.1.frz :: frzs r.1)) fun q => Ok (some (q.1, r.2)) Q
  simp only [ok_some]
  exact okE_mtv
theorem v_cab {f i : Nat} {as : E} : @Kk _ (evE T c m (.cab f i as) env) ⟨Q⟩ ↔ @Kk _ (get env i) ⟨fun _ => @Kk _ (evL T c m as env) ⟨fun r => @Kk _ (get r.2 i) ⟨fun w => @Kk _ (c f (w :: frzs r.1)) ⟨fun q => @One q.2 ⟨fun w0 => @Kk _ (some (q.1, r.2.set i (some w0))) ⟨Q⟩⟩⟩⟩⟩⟩ := by
  show Ok _ Q ↔ Ok (get env i) fun _ => Ok (evL T c m as env) fun r => Ok (get r.2 i) fun w => Ok (c f (w :: frzs r.1)) fun q => ∃ w0, q.2 = [w0] ∧ Ok (some (q.1, r.2.set i (some w0))) Q
  simp only [ok_some]
  exact okE_cab
theorem v_sup {D : Nat} {as : E} : @Kk _ (evE T c m (.sup D as) env) ⟨Q⟩ ↔ @Kk _ (get env 0) ⟨fun _ => @Kk _ (evL T c m as env) ⟨fun r => @Kk _ (get r.2 0) ⟨fun w => @Kk _ (T.sup D) ⟨fun f => @Kk _ (c f (w :: frzs r.1)) ⟨fun q => @One q.2 ⟨fun w0 => @Kk _ (some (q.1, r.2.set 0 (some w0))) ⟨Q⟩⟩⟩⟩⟩⟩⟩ := by
  show Ok _ Q ↔ Ok (get env 0) fun _ => Ok (evL T c m as env) fun r => Ok (get r.2 0) fun w => Ok (T.sup D) fun f => Ok (c f (w :: frzs r.1)) fun q => ∃ w0, q.2 = [w0] ∧ Ok (some (q.1, r.2.set 0 (some w0))) Q
  simp only [ok_some]
  exact okE_sup
theorem v_mtb {k i : Nat} {as : E} : @Kk _ (evE T c m (.mtb k i as) env) ⟨Q⟩ ↔ @Kk _ (get env i) ⟨fun o => @Kk _ (clsW o) ⟨fun d => @Kk _ (T.meth d k) ⟨fun f => @Kk _ (evL T c m as env) ⟨fun r => @Kk _ (get r.2 i) ⟨fun w => @Kk _ (c f (w :: frzs r.1)) ⟨fun q => @One q.2 ⟨fun w0 => @Kk _ (some (q.1, r.2.set i (some w0))) ⟨Q⟩⟩⟩⟩⟩⟩⟩⟩ := by
  show Ok _ Q ↔ Ok (get env i) fun o => Ok (clsW o) fun d => Ok (T.meth d k) fun f => Ok (evL T c m as env) fun r => Ok (get r.2 i) fun w => Ok (c f (w :: frzs r.1)) fun q => ∃ w0, q.2 = [w0] ∧ Ok (some (q.1, r.2.set i (some w0))) Q
  simp only [ok_some]
  exact okE_mtb
theorem v_mak {D : Nat} {as : E} : @Kk _ (evE T c m (.mak D as) env) ⟨Q⟩ ↔ @Kk _ (evL T c m as env) ⟨fun r => @Kk _ (T.init D) ⟨fun f => @Kk _ (m f (.ins true D [] [] :: frzs r.1)) ⟨fun q => @Mkd q ⟨fun w => @Kk _ (some (w, r.2)) ⟨Q⟩⟩⟩⟩⟩ := by
  show Ok _ Q ↔ Ok (evL T c m as env) fun r => Ok (T.init D) fun f => Ok (m f (.ins true D [] [] :: frzs r.1)) fun q => ∃ w, q = (.non, [w]) ∧ Ok (some (w, r.2)) Q
  simp only [ok_some]
  exact okE_mak
theorem v_lcp {k : K} {own : List Nat} {g : G} {it t a : E} : @Kk _ (evE T c m (.lcp k own g it t a) env) ⟨Q⟩ ↔ @Kk _ (evL T c m it env) ⟨fun r => @Kk _ (items k (frzs r.1)) ⟨fun xs => xs.length ≤ 1000000 ∧
    @Kk _ (compL (fun x e => asg 0 g [x] e) (evE T c m t) (evE T c m a) own xs (wipeE r.2 own) []) ⟨fun q => @Kk _ (some (.lst true q.1, backE r.2 q.2 own)) ⟨Q⟩⟩⟩⟩ := by
  show Ok _ Q ↔ Ok (evL T c m it env) fun r => Ok (items k (frzs r.1)) fun xs => xs.length ≤ 1000000 ∧ Ok (compL (fun x e => asg 0 g [x] e) (evE T c m t) (evE T c m a) own xs (wipeE r.2 own) []) fun q => Ok (some (.lst true q.1, backE r.2 q.2 own)) Q
  simp only [ok_some]
  exact okE_lcp
section
variable {Q : W → Prop}
theorem p_peek {i : Nat} : @Kk _ (evP env (.peek i)) ⟨Q⟩ ↔ @Kk _ (get env i) ⟨Q⟩ := okP_peek
theorem p_cst {w : W} : @Kk _ (evP env (.cst w)) ⟨Q⟩ ↔ Q w := okP_cst
theorem p_glb {n : Nat} {i : Int} : @Kk _ (evP env (.glb n i)) ⟨Q⟩ ↔ Q (.int i) := okP_glb
theorem p_un {o : O} {a : P} : @Kk _ (evP env (.un o a)) ⟨Q⟩ ↔ @Kk _ (evP env a) ⟨fun x => @Kk _ (opF o [x]) ⟨Q⟩⟩ := okP_un
theorem p_bi {o : O} {a b : P} : @Kk _ (evP env (.bi o a b)) ⟨Q⟩ ↔ @Kk _ (evP env a) ⟨fun x => @Kk _ (evP env b) ⟨fun y => @Kk _ (opF o [x, y]) ⟨Q⟩⟩⟩ := okP_bi
theorem p_and {a b : P} : @Kk _ (evP env (.and_ a b)) ⟨Q⟩ ↔ @Kk _ (evP env a) ⟨fun x => @Tw x ⟨@Kk _ (evP env b) ⟨Q⟩, Q (.bl false)⟩⟩ := okP_and
theorem p_or {a b : P} : @Kk _ (evP env (.or_ a b)) ⟨Q⟩ ↔ @Kk _ (evP env a) ⟨fun x => @Tw x ⟨Q (.bl true), @Kk _ (evP env b) ⟨Q⟩⟩⟩ := okP_or
theorem p_not {a : P} : @Kk _ (evP env (.not_ a)) ⟨Q⟩ ↔ @Kk _ (evP env a) ⟨fun x => @Tw x ⟨Q (.bl false), Q (.bl true)⟩⟩ := okP_not
theorem p_ife {t a b : P} : @Kk _ (evP env (.ife t a b)) ⟨Q⟩ ↔ @Kk _ (evP env t) ⟨fun x => @Tw x ⟨@Kk _ (evP env a) ⟨Q⟩, @Kk _ (evP env b) ⟨Q⟩⟩⟩ := okP_ife
end
theorem a_var {i : Nat} {w : W} {Q : Env → Prop} : @Kk _ (asg n (.var i) [w] env) ⟨Q⟩ ↔ (n ≤ i ∧ i < env.length) ∧ @Kk _ (some (env.set i (some w))) ⟨Q⟩ := by
  show Ok _ Q ↔ _ ∧ Ok _ Q
  unfold asg
  rw [ok_guard]
  simp
theorem a_tup {gs : G} {ws : List W} {Q : Env → Prop} : @Kk _ (asg n (.tup gs) [.tup ws] env) ⟨Q⟩ ↔ @Kk _ (asg n gs ws env) ⟨Q⟩ := by
  rw [asg]
theorem a_nil {Q : Env → Prop} : @Kk _ (asg n .nil [] env) ⟨Q⟩ ↔ Q env := by
  rw [asg]
  exact ok_some
theorem a_cons {g r : G} {w : W} {ws : List W} {Q : Env → Prop} : @Kk _ (asg n (.cons g r) (w :: ws) env) ⟨Q⟩ ↔ @Kk _ (asg n g [w] env) ⟨fun e => @Kk _ (asg n r ws e) ⟨Q⟩⟩ := by
  show Ok _ Q ↔ Ok _ fun e => Ok _ Q
  rw [asg]
  cases asg n g [w] env with
  | none => exact ok_n
  | some e => rw [ok_some]
section
variable {Q : Fl × Env → Prop}
theorem w_nil : @Kk _ (evS T c m n .nil env) ⟨Q⟩ ↔ @Kk _ (some (.next, env)) ⟨Q⟩ := by
  show Ok _ Q ↔ Ok (some (.next, env)) Q
  simp only [ok_some]
  exact okS_nil
theorem w_pass : @Kk _ (evS T c m n .pass env) ⟨Q⟩ ↔ @Kk _ (some (.next, env)) ⟨Q⟩ := by
  show Ok _ Q ↔ Ok (some (.next, env)) Q
  simp only [ok_some]
  exact okS_pass
theorem w_brk : @Kk _ (evS T c m n .brk env) ⟨Q⟩ ↔ @Kk _ (some (.brk, env)) ⟨Q⟩ := by
  show Ok _ Q ↔ Ok (some (.brk, env)) Q
  simp only [ok_some]
  exact okS_brk
theorem w_cont : @Kk _ (evS T c m n .cont env) ⟨Q⟩ ↔ @Kk _ (some (.cont, env)) ⟨Q⟩ := by
  show Ok _ Q ↔ Ok (some (.cont, env)) Q
  simp only [ok_some]
  exact okS_cont
theorem w_ret {e : E} : @Kk _ (evS T c m n (.ret e) env) ⟨Q⟩ ↔ @Kk _ (evE T c m e env) ⟨fun r => @Kk _ (some (.ret r.1, r.2)) ⟨Q⟩⟩ := by
  show Ok _ Q ↔ Ok (evE T c m e env) fun r => Ok (some (.ret r.1, r.2)) Q
  simp only [ok_some]
  exact okS_ret
theorem w_expr {e : E} : @Kk _ (evS T c m n (.expr e) env) ⟨Q⟩ ↔ @Kk _ (evE T c m e env) ⟨fun r => @Kk _ (some (.next, r.2)) ⟨Q⟩⟩ := by
  show Ok _ Q ↔ Ok (evE T c m e env) fun r => Ok (some (.next, r.2)) Q
  simp only [ok_some]
  exact okS_expr
theorem w_asg {g : G} {e : E} : @Kk _ (evS T c m n (.asg g e) env) ⟨Q⟩ ↔ @Kk _ (evE T c m e env) ⟨fun r => @Kk _ (asg n g [r.1] r.2) ⟨fun env2 => @Kk _ (some (.next, env2)) ⟨Q⟩⟩⟩ := by
  show Ok _ Q ↔ Ok (evE T c m e env) fun r => Ok (asg n g [r.1] r.2) fun env2 => Ok (some (.next, env2)) Q
  simp only [ok_some]
  exact okS_asg
theorem w_aug {o : O} {i : Nat} {a : E} : @Kk _ (evS T c m n (.aug o i a) env) ⟨Q⟩ ↔ @Kk _ (get env i) ⟨fun _ => @Kk _ (evE T c m a env) ⟨fun r => @Kk _ (get r.2 i) ⟨fun x => @Kk _ (opF o [x, r.1.frz]) ⟨fun y => @Kk _ (asg n (.var i) [y] r.2) ⟨fun env2 => @Kk _ (some (.next, env2)) ⟨Q⟩⟩⟩⟩⟩⟩ := by
  show Ok _ Q ↔ Ok (get env i) fun _ => Ok (evE T c m a env) fun r => Ok (get r.2 i) fun x => Ok (opF o [x, r.1.frz]) fun y => Ok (asg n (.var i) [y] r.2) fun env2 => Ok (some (.next, env2)) Q
  simp only [ok_some]
  exact okS_aug
theorem w_mut1 {T : Tab} {k : M} {ws : List W} {l : List Ac} {i : Nat} : @Kk _ (mut1 T k ws l i env) ⟨Q⟩ ↔ @Kk _ (get env i) ⟨fun w => @Kk _ (updP (mutF T.fld k ws) l w) ⟨fun w1 => @Kk _ (some (.next, env.set i (some w1))) ⟨Q⟩⟩⟩ := by
  show Ok _ Q ↔ Ok (get env i) fun w => Ok (updP (mutF T.fld k ws) l w) fun w1 => Ok (some (.next, env.set i (some w1))) Q
  simp only [ok_some]
  exact ok_mut1
theorem w_iff {t : E} {a b : S} : @Kk _ (evS T c m n (.iff t a b) env) ⟨Q⟩ ↔ @Kk _ (evE T c m t env) ⟨fun r => @Tw r.1 ⟨@Kk _ (evS T c m n a r.2) ⟨Q⟩, @Kk _ (evS T c m n b r.2) ⟨Q⟩⟩⟩ := okS_iff
theorem w_cons {a r : S} : @Kk _ (evS T c m n (.cons a r) env) ⟨Q⟩ ↔ @Kk _ (evS T c m n a env) ⟨fun x => @Th x ⟨fun env1 => @Kk _ (evS T c m n r env1) ⟨Q⟩, Q⟩⟩ := okS_cons
theorem w_whl {t : E} {b : S} : @Kk _ (evS T c m n (.whl t b) env) ⟨Q⟩ ↔ @Kk _ (loopW (evE T c m t) (evS T c m n b) T.fuel env) ⟨Q⟩ := okS_whl
theorem w_for {k : K} {g : G} {it : E} {b : S} : @Kk _ (evS T c m n (.for_ k g it b) env) ⟨Q⟩ ↔ @Kk _ (evL T c m it env) ⟨fun r => @Kk _ (items k (frzs r.1)) ⟨fun xs => @Kk _ (loopF (fun x e => asg n g [x] e) (evS T c m n b) xs r.2) ⟨Q⟩⟩⟩ := okS_for
theorem w_mut {k : M} {i : Nat} {pa : Pa} {as : E} : @Kk _ (evS T c m n (.mut k i pa as) env) ⟨Q⟩ ↔ @Kk _ (evPa env pa) ⟨fun l => @Kk _ (get env i) ⟨fun w0 => @Kk _ (subP l w0) ⟨fun x => isLst x = true ∧ @Kk _ (evL T c m as env) ⟨fun r => @Kk _ (mut1 T k r.1 l i r.2) ⟨Q⟩⟩⟩⟩⟩ := okS_mut
theorem w_seti {i : Nat} {pa : Pa} {k : P} {a : E} : @Kk _ (evS T c m n (.seti i pa k a) env) ⟨Q⟩ ↔ @Kk _ (evE T c m a env) ⟨fun r => @Kk _ (evPa r.2 pa) ⟨fun l => @Kk _ (evP r.2 k) ⟨fun kw => @Kk _ (mut1 T .seti [kw, r.1] l i r.2) ⟨Q⟩⟩⟩⟩ := okS_seti
theorem w_setf {i : Nat} {pa : Pa} {f : Nat} {a : E} : @Kk _ (evS T c m n (.setf i pa f a) env) ⟨Q⟩ ↔ @Kk _ (evE T c m a env) ⟨fun r => @Kk _ (evPa r.2 pa) ⟨fun l => @Kk _ (mut1 T (.setf f) [r.1] l i r.2) ⟨Q⟩⟩⟩ := okS_setf
end
end
theorem eqo {α : Type} {o : Option α} {x : α} (h : ∀ {Q : α → Prop}, Ok o Q ↔ Q x) : o = some x := by
  obtain ⟨r, e, q⟩ := (h (Q := fun r => r = x)).mpr rfl
  rw [e, q]
theorem pa_rt {env : Env} : evPa env .root = some [] := rfl
theorem up_rt {g : W → Option W} {w : W} : updP g [] w = g w := rfl
theorem sb_rt {w : W} : subP [] w = some w := rfl
theorem k_app {T : Tab} {x : W} {ws : List W} {Q : W → Prop} : @Kk _ (mutF T.fld .append [x] (.lst true ws)) ⟨Q⟩ ↔ ws.length < 1000000 ∧ Q (.lst true (ws ++ [x])) := by
  show Ok _ Q ↔ _
  rw [mutF, ok_guard, ok_some]
  simp
end Nb
end
section
set_option maxRecDepth 100000
namespace Nb
theorem get_z {w : W} {r : Env} : get (some w :: r) 0 = some w := rfl
theorem get_s {x : Option W} {r : Env} {i : Nat} : get (x :: r) (i + 1) = get r i := rfl
theorem thn_next {e : Env} {A : Env → Prop} {B : Fl × Env → Prop} : Thn (.next, e) A B ↔ A e := Iff.rfl
theorem thn_ret {e : Env} {w : W} {A : Env → Prop} {B : Fl × Env → Prop} : Thn (.ret w, e) A B ↔ B (.ret w, e) := Iff.rfl
theorem two_dec {p : Prop} [Decidable p] {A B : Prop} : Two (.bl (decide p)) A B ↔ (p → A) ∧ (¬p → B) := by
  rw [two_bl]
  simp
theorem two_eq {i j : Int} {A B : Prop} : Two (.bl (i == j)) A B ↔ (i = j → A) ∧ (i ≠ j → B) := by
  rw [two_bl]
  simp
theorem asg_var {n i : Nat} {w : W} {env : Env} {Q : Env → Prop} : Ok (asg n (.var i) [w] env) Q ↔ (n ≤ i ∧ i < env.length) ∧ Q (env.set i (some w)) := by
  unfold asg
  rw [ok_guard, ok_some]
  simp
theorem lent_0 {env : Env} : lent 0 env = some [] := rfl
theorem ok_rng1 {e : Int} {Q : List W → Prop} : Ok (items .rng1 [.int e]) Q ↔ (-1000000 < e ∧ e < 1000000) ∧ Q ((List.range e.toNat).map fun (i : Nat) => W.int (0 + (i : Int))) := by
  show Ok (guardO _ _) Q ↔ _
  rw [ok_guard, ok_some]
  simp
theorem ok_rng2 {a b : Int} {Q : List W → Prop} : Ok (items .rng2 [.int a, .int b]) Q ↔ (-1000000 < a ∧ a < 1000000 ∧ -1000000 < b ∧ b < 1000000) ∧ Q ((List.range (b - a).toNat).map fun (i : Nat) => W.int (a + (i : Int))) := by
  show Ok (guardO _ _) Q ↔ _
  rw [ok_guard, ok_some]
  simp
theorem o_bitl {i : Int} {Q : W → Prop} : Ok (opF .bitl [.int i]) Q ↔ Q (.int (bitLen i.natAbs)) := ok_some
theorem o_isN {w : W} {Q : W → Prop} : Ok (opF .isN [w, .non]) Q ↔ Q (.bl (isNon w)) := ok_some
theorem o_idx {ws : List W} {i : Int} {Q : W → Prop} : Ok (opF .idx [.tup ws, .int i]) Q ↔ Ok (ixP ws.length i) fun j => Ok ws[j]? Q := by
  show Ok (match ixP ws.length i with | some k => ws[k]? | none => none) Q ↔ _
  cases h : ixP ws.length i with
  | none => exact ok_n
  | some j => rw [ok_some]
theorem opD_tup {ws : List W} {Q : W → Prop} : Ok (opD .tup ws) Q ↔ ws.length ≤ 1000 ∧ Q (.tup (frzs ws)) := by
  show Ok (guardO _ _) Q ↔ _
  rw [ok_guard, ok_some]
  simp
theorem bit_le {n k : Nat} (h : n < 2 ^ k) : bitLen n ≤ k := by
  unfold bitLen
  split
  · omega
  · rename_i h0
    have := (Nat.log2_lt h0).mpr h
    omega
theorem bit_pos {n : Nat} (h : n ≠ 0) : 1 ≤ bitLen n := by
  unfold bitLen
  rw [if_neg h]
  omega
section
variable {Q : W → Prop} {i j : Int}
theorem o_add : Ok (opF .add [.int i, .int j]) Q ↔ Q (.int (i + j)) := ok_some
theorem o_sub : Ok (opF .sub [.int i, .int j]) Q ↔ Q (.int (i - j)) := ok_some
theorem o_mul : Ok (opF .mul [.int i, .int j]) Q ↔ (fit64 i || fit64 j) = true ∧ Q (.int (i * j)) := by
  show Ok (guardO _ _) Q ↔ _
  rw [ok_guard, ok_some]
theorem o_fdiv : Ok (opF .fdiv [.int i, .int j]) Q ↔ (0 < j ∧ j < 1073741824) ∧ Q (.int (i / j)) := by
  show Ok (guardO _ _) Q ↔ _
  rw [ok_guard, ok_some]
  simp
theorem o_mod : Ok (opF .mod [.int i, .int j]) Q ↔ 0 < j ∧ Q (.int (i % j)) := by
  show Ok (guardO _ _) Q ↔ _
  rw [ok_guard, ok_some]
  simp
theorem o_lt : Ok (opF .lt [.int i, .int j]) Q ↔ Q (.bl (decide (i < j))) := ok_some
theorem o_le : Ok (opF .le [.int i, .int j]) Q ↔ Q (.bl (decide (i ≤ j))) := ok_some
theorem o_gt : Ok (opF .gt [.int i, .int j]) Q ↔ Q (.bl (decide (j < i))) := ok_some
theorem o_ge : Ok (opF .ge [.int i, .int j]) Q ↔ Q (.bl (decide (j ≤ i))) := ok_some
theorem o_eq : Ok (opF .eq [.int i, .int j]) Q ↔ Q (.bl (i == j)) := ok_some
theorem o_ne : Ok (opF .ne [.int i, .int j]) Q ↔ Q (.bl (!(i == j))) := ok_some
end
end Nb
namespace Lk48
open Nb
abbrev T := t.tab
abbrev rn := run t.tab t.ds
def Pr (n : Int) : Prop := 2 ≤ n ∧ ∀ d : Int, 2 ≤ d → d * d ≤ n → n % d ≠ 0
theorem is_prime {k : Nat} {n : Int} (h0 : n < 1000000000) : Ok (rn (k + 1) 1 [.int n]) fun r => ∃ b, r = (.bl b, []) ∧ (b = true ↔ Pr n) := by
  refine ok_run (d := ⟨1, 0, 2, b1⟩) rfl rfl ?_
  simp only [b1, okS_cons, okS_iff, okE_pv, okP_bi, okP_peek, okP_cst, List.map, List.replicate, List.cons_append, List.nil_append, get_z, get_s, ok_some, o_lt, two_dec, W.isF, okS_ret, okS_nil, thn_next, thn_ret, okS_asg, asg_var, List.length, List.set, lent_0, true_and, okS_whl]
  refine ⟨fun h => ⟨false, rfl, ⟨fun z => (by cases z), fun z => absurd z.1 (by omega)⟩⟩, fun h => ⟨by omega, ?_⟩⟩
  refine ok_while (I := fun env => ∃ d : Int, env = [some (.int n), some (.int d)] ∧ 2 ≤ d ∧ d ≤ 40000 ∧ ∀ e : Int, 2 ≤ e → e < d → n % e ≠ 0) (mu := fun env => match Nb.get env 1 with
    | some (.int d) => (50000 - d).toNat
    | _ => 0) ?_ _ _ ⟨2, rfl, by omega, by omega, fun e _ _ => by omega⟩ (show (50000 - 2 : Int).toNat < 100000 by decide)
  rintro env ⟨d, rfl, h1, h2, h3⟩
  have hf : fit64 d = true := by
    unfold fit64
    simp
    omega
  have hq : 0 ≤ n / d := Int.ediv_nonneg (by omega) (by omega)
  simp only [okS_cons, okS_iff, okE_pv, okP_bi, okP_peek, okP_cst, get_z, get_s, ok_some, o_mul, o_le, o_eq, o_sub, o_fdiv, o_add, two_dec, two_eq, W.isF, W.frz, okS_ret, okS_nil, thn_next, thn_ret, okS_aug, asg_var, List.length, List.set, true_and, hf, Bool.true_or]
  have hmod : n - d * (n / d) = n % d := by
    rw [Int.emod_def]
  refine ⟨fun hle => ⟨⟨by omega, by omega⟩, fun hz => ?_, fun hz => ⟨by omega, ⟨d + 1, rfl, by omega, ?_, fun e he1 he2 => ?_⟩, by omega⟩⟩, fun hle => ?_⟩
  · refine ⟨false, rfl, fun z => (by cases z), fun z => absurd ?_ (z.2 d h1 hle)⟩
    rw [← hmod]
    exact hz
  · have : d * d ≥ d * 2 := Int.mul_le_mul_of_nonneg_left h1 (by omega)
    by_cases hd : d ≤ 39999
    · omega
    · have : d = 40000 := by omega
      subst this
      omega
  · by_cases e2 : e < d
    · exact h3 e he1 e2
    · have : e = d := by omega
      rw [this, ← hmod]
      exact hz
  · refine ⟨true, rfl, fun _ => ⟨by omega, fun e he1 he2 => ?_⟩, fun _ => rfl⟩
    by_cases e2 : e < d
    · exact h3 e he1 e2
    · exfalso
      have := Int.mul_le_mul (show d ≤ e by omega) (show d ≤ e by omega) (by omega) (by omega)
      omega
theorem pr5003 : Pr 5003 := by
  refine ⟨by omega, fun d h1 h2 => ?_⟩
  have h3 : d ≤ 70 := by
    by_cases h : d ≤ 70
    · exact h
    · have := Int.mul_le_mul (show (71 : Int) ≤ d by omega) (show (71 : Int) ≤ d by omega) (by omega) (by omega)
      omega
  have key : ∀ k : Fin 71, 2 ≤ k.val → (5003 : Int) % (k.val : Int) ≠ 0 := by decide
  have := key ⟨d.toNat, by omega⟩ (by show 2 ≤ d.toNat; omega)
  have e : ((d.toNat : Nat) : Int) = d := by omega
  rw [← e]
  exact this
theorem prime_from {k : Nat} {n : Int} (h0 : 0 ≤ n) (h1 : n ≤ 5003) : Ok (rn (k + 2) 2 [.int n]) fun r => ∃ p, r = (.int p, []) ∧ n ≤ p ∧ p ≤ 5003 ∧ Pr p := by
  refine ok_run (d := ⟨1, 0, 1, b2⟩) rfl rfl ?_
  simp only [b2, okS_cons, okS_whl, List.map, List.replicate, List.cons_append, List.nil_append]
  refine ok_while (I := fun env => ∃ m : Int, env = [some (.int m)] ∧ n ≤ m ∧ m ≤ 5003) (mu := fun env => match Nb.get env 0 with
    | some (.int d) => (6000 - d).toNat
    | _ => 0) ?_ _ _ ⟨n, rfl, by omega, h1⟩ (show (6000 - n).toNat < 100000 by omega)
  rintro env ⟨m, rfl, h2, h3⟩
  simp only [okE_not, okE_cal, okL_cons, okL_nil, okE_var, get_z, ok_some, W.isF, frzs, W.frz, true_implies, reduceCtorEq, false_implies, and_true]
  refine (is_prime (k := k) (n := m) (by omega)).mono fun r ⟨b, e, hb⟩ => ?_
  subst e
  simp only [two_bl, true_implies, reduceCtorEq, false_implies, and_true, true_and, okS_cons, okS_aug, okE_pv, okP_cst, get_z, ok_some, o_add, asg_var, W.isF, W.frz, List.length, List.set, thn_next, thn_ret, okS_nil, okS_ret, okE_var, lent_0]
  refine ⟨fun h => ⟨m, rfl, h2, h3, hb.mp h⟩, fun h => ?_⟩
  have hne : m ≠ 5003 := fun z => by
    rw [z] at hb
    rw [hb.mpr pr5003] at h
    cases h
  exact ⟨by omega, ⟨m + 1, rfl, by omega, by omega⟩, by omega⟩
theorem reaches {k : Nat} {b e g : Int} (hb : fit64 b = true) (h0 : 0 ≤ e) (h1 : e < 1000) : Ok (rn (k + 1) 3 [.int b, .int e, .int g]) fun r => ∃ x, r = (.bl x, []) ∧ (2 ≤ e → g ≤ b * b → x = true) := by
  refine ok_run (d := ⟨3, 0, 5, b3⟩) rfl rfl ?_
  simp only [b3, okS_cons, okS_for, okS_asg, okE_pv, okP_cst, ok_some, asg_var, okL_cons, okL_nil, okE_var, get_z, get_s, W.isF, W.frz, frzs, List.map, List.replicate, List.cons_append, List.nil_append, List.length, List.set, thn_next, true_implies, reduceCtorEq, false_implies, and_true, true_and, ok_rng1]
  refine ⟨by omega, by omega, ?_⟩
  refine ok_for (I := fun xs env => ∃ (j : Nat) (v : Int) (l : Option W), env = [some (.int b), some (.int e), some (.int g), some (.int v), l] ∧ xs.length + j = e.toNat ∧ (j = 0 → v = 1) ∧ (j = 1 → v = b) ∧ (2 ≤ j → ¬ g ≤ b * b)) ?_ ?_ _ _ ⟨0, 1, none, rfl, by simp, fun _ => rfl, fun z => (by omega), fun z => (by omega)⟩
  · rintro env ⟨j, v, l, rfl, h2, h3, h4, h5⟩
    simp only [thn_next, okS_cons, okS_nil, okS_ret, okE_pv, okP_bi, okP_peek, get_z, get_s, ok_some, o_ge, W.isF, true_and, thn_ret, lent_0]
    refine ⟨_, rfl, fun h6 h7 => ?_⟩
    have : 2 ≤ j := by
      simp only [List.length_nil] at h2
      omega
    exact absurd h7 (h5 this)
  · rintro x xs env ⟨j, v, l, rfl, h2, h3, h4, h5⟩
    simp only [asg_var, List.length, List.set, okS_cons, okS_asg, okS_iff, okS_nil, okS_ret, okE_pv, okP_bi, okP_peek, okP_cst, get_z, get_s, ok_some, o_ge, o_mul, two_dec, W.isF, true_and, thn_ret, thn_next, lent_0, hb, Bool.or_true]
    refine ⟨by omega, by omega, fun h6 => ⟨true, rfl, fun _ _ => rfl⟩, fun h6 => ⟨j + 1, v * b, some x, rfl, ?_, fun z => (by omega), fun z => ?_, fun z => ?_⟩⟩
    · simp only [List.length_cons] at h2
      omega
    · rw [h3 (by omega), Int.one_mul]
    · by_cases hj : j = 1
      · rw [h4 hj] at h6
        exact h6
      · exact h5 (by omega)
theorem prime_for {k : Nat} {d u g : Int} (h0 : 1 ≤ d) (h1 : d ≤ 186) (h2 : 1 ≤ u) (h3 : u ≤ 24) (h4 : g ≤ 16000000) : Ok (rn (k + 3) 4 [.int d, .int u, .int g]) fun r => ∃ p, r = (.int p, []) ∧ d * u + 1 ≤ p ∧ p ≤ 5003 ∧ Pr p := by
  have hm : d * u ≤ 186 * 24 := Int.mul_le_mul h1 h3 (by omega) (by omega)
  have hm0 : 0 ≤ d * u := Int.mul_nonneg (by omega) (by omega)
  have hf : fit64 d = true := by
    unfold fit64
    simp
    omega
  refine ok_run (d := ⟨3, 0, 4, b4⟩) rfl rfl ?_
  simp only [b4, okS_cons, okS_whl, okS_asg, okE_cal, okE_pv, okP_bi, okP_peek, okP_cst, o_add, o_mul, hf, Bool.true_or, ok_some, asg_var, okL_cons, okL_nil, okE_var, get_z, get_s, W.isF, W.frz, frzs, List.map, List.replicate, List.cons_append, List.nil_append, List.length, List.set, thn_next, true_implies, reduceCtorEq, false_implies, and_true, true_and]
  refine (prime_from (k := k) (n := d * u + 1) (by omega) (by omega)).mono fun r ⟨p, e, hp1, hp2, hp3⟩ => ?_
  subst e
  simp only [asg_var, List.length, List.set, thn_next]
  refine ⟨by omega, ?_⟩
  refine ok_while (I := fun env => ∃ p : Int, env = [some (.int d), some (.int u), some (.int g), some (.int p)] ∧ d * u + 1 ≤ p ∧ p ≤ 5003 ∧ Pr p) (mu := fun env => match Nb.get env 3 with
    | some (.int d) => (6000 - d).toNat
    | _ => 0) ?_ _ _ ⟨p, rfl, hp1, hp2, hp3⟩ (show (6000 - p).toNat < 100000 by omega)
  rintro env ⟨p, rfl, hp1, hp2, hp3⟩
  have hfp : fit64 p = true := by
    unfold fit64
    simp
    omega
  simp only [okE_not, okE_cal, okL_cons, okL_nil, okE_var, okE_pv, okP_bi, okP_peek, okP_cst, o_add, get_z, get_s, ok_some, W.isF, frzs, W.frz, true_implies, reduceCtorEq, false_implies, and_true, true_and]
  refine (reaches (k := k + 1) (b := p) (e := u + 1) (g := g) hfp (by omega) (by omega)).mono fun r ⟨x, e, hx⟩ => ?_
  subst e
  simp only [two_bl, true_implies, reduceCtorEq, false_implies, and_true, true_and, okS_cons, okS_asg, okE_cal, okL_cons, okL_nil, okE_pv, okP_bi, okP_peek, okP_cst, get_z, get_s, ok_some, o_add, asg_var, W.isF, W.frz, frzs, List.length, List.set, thn_next, thn_ret, okS_nil, okS_ret, okE_var, lent_0]
  refine ⟨fun _ => ⟨p, rfl, hp1, hp2, hp3⟩, fun h => ?_⟩
  have hne : p ≠ 5003 := fun z => by
    rw [hx (by omega) (by rw [z]; omega)] at h
    cases h
  refine (prime_from (k := k) (n := p + 1) (by omega) (by omega)).mono fun r ⟨q, e, hq1, hq2, hq3⟩ => ?_
  subst e
  simp only [asg_var, List.length, List.set, thn_next, okS_nil, ok_some]
  exact ⟨by omega, ⟨q, rfl, by omega, hq2, hq3⟩, by show (6000 - q).toNat < (6000 - p).toNat; omega⟩
theorem step_of {k : Nat} {d g : Int} (h0 : 1 ≤ d) (h1 : d ≤ 186) (h2 : 1 ≤ g) (h4 : g ≤ 16000000) : Ok (rn (k + 4) 5 [.int d, .int g]) fun r => ∃ p u, r = (.tup [.int p, .int u], []) ∧ d + 1 ≤ p ∧ p ≤ 5003 := by
  have hb1 : bitLen g.natAbs ≤ 24 := bit_le (by omega)
  have hb2 : 1 ≤ bitLen g.natAbs := bit_pos (by omega)
  refine ok_run (d := ⟨2, 0, 5, b5⟩) rfl rfl ?_
  simp only [b5, okS_cons, okS_for, okS_asg, okE_pv, okP_un, okP_bi, okP_peek, okP_cst, o_add, o_bitl, ok_some, asg_var, okL_cons, okL_nil, okE_var, get_z, get_s, W.isF, W.frz, frzs, List.map, List.replicate, List.cons_append, List.nil_append, List.length, List.set, thn_next, true_implies, reduceCtorEq, false_implies, and_true, true_and, ok_rng2]
  refine ⟨by omega, by omega, ?_⟩
  refine ok_for (I := fun xs env => ∃ (b : W) (l3 l4 : Option W), env = [some (.int d), some (.int g), some b, l3, l4] ∧ (∀ x ∈ xs, ∃ i : Int, x = .int i ∧ 1 ≤ i ∧ i ≤ 24) ∧ ((b = .non ∧ xs ≠ []) ∨ ∃ p u, b = .tup [.int p, .int u] ∧ d + 1 ≤ p ∧ p ≤ 5003)) ?_ ?_ _ _ ⟨.non, none, none, rfl, ?_, .inl ⟨rfl, ?_⟩⟩
  · rintro env ⟨b, l3, l4, rfl, _, h⟩
    rcases h with ⟨_, h⟩ | ⟨p, u, rfl, h5, h6⟩
    · exact absurd rfl h
    · simp only [thn_next, okS_cons, okS_nil, okS_ret, okE_var, get_z, get_s, ok_some, W.isF, isFs, Bool.and_true, Bool.true_and, true_implies, reduceCtorEq, false_implies, and_true, thn_ret, lent_0]
      exact ⟨p, u, rfl, h5, h6⟩
  · rintro x xs env ⟨b, l3, l4, rfl, hx, h⟩
    obtain ⟨i, rfl, hi1, hi2⟩ := hx _ List.mem_cons_self
    simp only [asg_var, List.length, List.set, okS_cons, okS_asg, okE_cal, okL_cons, okL_nil, okE_var, get_z, get_s, ok_some, W.isF, W.frz, frzs, true_implies, reduceCtorEq, false_implies, and_true, true_and]
    refine ⟨by omega, (prime_for (k := k) (d := d) (u := i) (g := g) h0 h1 hi1 hi2 h4).mono fun r ⟨p, e, hp1, hp2, hp3⟩ => ?_⟩
    subst e
    have hp4 : d + 1 ≤ p := by
      have : d * 1 ≤ d * i := Int.mul_le_mul_of_nonneg_left hi1 (by omega)
      omega
    have hx' : ∀ x ∈ xs, ∃ i : Int, x = .int i ∧ 1 ≤ i ∧ i ≤ 24 := fun x hm => hx x (List.mem_cons_of_mem _ hm)
    rcases h with ⟨rfl, _⟩ | ⟨p0, u0, rfl, h5, h6⟩
    · simp only [asg_var, List.length, List.set, thn_next, okS_iff, okE_pv, okP_or, okP_bi, okP_peek, okP_cst, get_z, get_s, ok_some, o_isN, isNon, two_bl, W.isF, true_implies, reduceCtorEq, false_implies, and_true, true_and, okS_cons, okS_asg, okE_ds, okL_cons, okL_nil, okE_var, opD_tup, frzs, W.frz, okS_nil]
      exact ⟨by omega, by omega, by omega, _, _, _, rfl, hx', .inr ⟨p, i, rfl, hp4, hp2⟩⟩
    · simp only [asg_var, List.length, List.set, thn_next, okS_iff, okE_pv, okP_or, okP_bi, okP_peek, okP_cst, get_z, get_s, ok_some, o_isN, isNon, two_bl, o_idx, W.isF, true_implies, reduceCtorEq, false_implies, and_true, true_and, okS_cons, okS_asg, okE_ds, okL_cons, okL_nil, okE_var, opD_tup, frzs, W.frz, okS_nil]
      refine ⟨by omega, ⟨0, rfl, .int p0, rfl, ?_⟩⟩
      simp only [o_lt, two_dec, W.isF, true_and]
      exact ⟨fun _ => ⟨by omega, by omega, _, _, _, rfl, hx', .inr ⟨p, i, rfl, hp4, hp2⟩⟩, fun _ => ⟨_, _, _, rfl, hx', .inr ⟨p0, u0, rfl, h5, h6⟩⟩⟩
  · intro x hx
    obtain ⟨i, hi, rfl⟩ := List.mem_map.mp hx
    have := List.mem_range.mp hi
    exact ⟨_, rfl, by omega, by omega⟩
  · intro h
    have := congrArg List.length h
    simp at this
    omega
def pickP : Option (W × List W) → Int
  | some (.tup [.int p, _], _) => p
  | _ => 0
def pickU : Option (W × List W) → Int
  | some (.tup [_, .int u], _) => u
  | _ => 0
def stp (d g : Int) : Int := pickP (rn 4 5 [.int d, .int g])
def stu (d g : Int) : Int := pickU (rn 4 5 [.int d, .int g])
theorem stp_eq {k : Nat} {d g : Int} (h0 : 1 ≤ d) (h1 : d ≤ 186) (h2 : 1 ≤ g) (h4 : g ≤ 16000000) : rn (k + 4) 5 [.int d, .int g] = some (.tup [.int (stp d g), .int (stu d g)], []) ∧ d + 1 ≤ stp d g ∧ stp d g ≤ 5003 := by
  obtain ⟨r, e, p, u, rfl, h5, h6⟩ := step_of (k := 0) h0 h1 h2 h4
  have e' : rn (0 + 4) 5 [.int d, .int g] = some (.tup [.int p, .int u], []) := e
  have e1 : stp d g = p := congrArg pickP e'
  have e2 : stu d g = u := congrArg pickU e'
  rw [e1, e2]
  exact ⟨run_le (by omega) _ _ _ e', h5, h6⟩
end Lk48
end
section
set_option maxRecDepth 100000
namespace Nb
theorem o_neg {i : Int} {Q : W → Prop} : Ok (opF .neg [.int i]) Q ↔ Q (.int (-i)) := ok_some
theorem o_max {i j : Int} {Q : W → Prop} : Ok (opF .max2 [.int i, .int j]) Q ↔ Q (.int (max i j)) := by
  have : (if i < j then j else i) = max i j := by omega
  rw [← this]
  exact ok_some
theorem o_min {i j : Int} {Q : W → Prop} : Ok (opF .min2 [.int i, .int j]) Q ↔ Q (.int (min i j)) := by
  have : (if j < i then j else i) = min i j := by omega
  rw [← this]
  exact ok_some
theorem o_lenl {b : Bool} {ws : List W} {Q : W → Prop} : Ok (opF .len [.lst b ws]) Q ↔ Q (.int ws.length) := ok_some
theorem o_lent {ws : List W} {Q : W → Prop} : Ok (opF .len [.tup ws]) Q ↔ Q (.int ws.length) := ok_some
theorem o_int {i : Int} {Q : W → Prop} : Ok (opF .int [.int i]) Q ↔ Q (.int i) := ok_some
theorem o_idxl {b : Bool} {ws : List W} {i : Int} {Q : W → Prop} : Ok (opF .idx [.lst b ws, .int i]) Q ↔ Ok (ixP ws.length i) fun j => Ok ws[j]? Q := by
  show Ok (match ixP ws.length i with | some k => ws[k]? | none => none) Q ↔ _
  cases h : ixP ws.length i with
  | none => exact ok_n
  | some j => rw [ok_some]
/-- a list of numbers -/
abbrev il (b : Bool) (xs : List Int) : W := .lst b (xs.map W.int)
theorem ix_ok {n : Nat} {i : Int} {Q : Nat → Prop} (h : 0 ≤ i) (h1 : i < n) : Ok (ixP n i) Q ↔ Q i.toNat := by
  unfold ixP
  rw [if_pos h, if_pos h1, ok_some]
theorem o_last {b : Bool} {xs : List Int} {l : Int} {Q : W → Prop} : Ok (opF .idx [il b (xs ++ [l]), .int (-1)]) Q ↔ Q (.int l) := by
  rw [o_idxl]
  have h : ixP ((xs ++ [l]).map W.int).length (-1) = some xs.length := by
    unfold ixP
    rw [if_neg (by omega), if_pos (by simp only [List.length_map, List.length_append, List.length_cons, List.length_nil]; omega)]
    simp only [List.length_map, List.length_append, List.length_cons, List.length_nil]
    congr 1
    omega
  rw [h, ok_some]
  have h2 : ((xs ++ [l]).map W.int)[xs.length]? = some (.int l) := by simp
  rw [h2, ok_some]
theorem o_ixl {b : Bool} {xs : List Int} {i : Int} {Q : W → Prop} (h : 0 ≤ i) (h1 : i < xs.length) : Ok (opF .idx [il b xs, .int i]) Q ↔ Q (.int (xs.getD i.toNat 0)) := by
  rw [o_idxl, ix_ok h (by simpa using h1)]
  have h2 : (xs.map W.int)[i.toNat]? = some (.int (xs.getD i.toNat 0)) := by
    have : i.toNat < xs.length := by omega
    simp [this]
  rw [h2, ok_some]
theorem asg_tup {n : Nat} {gs : G} {ws : List W} {env : Env} {Q : Env → Prop} : Ok (asg n (.tup gs) [.tup ws] env) Q ↔ Ok (asg n gs ws env) Q := by
  rw [asg]
theorem asg_nil {n : Nat} {env : Env} {Q : Env → Prop} : Ok (asg n .nil [] env) Q ↔ Q env := by
  rw [asg, ok_some]
theorem asg_cons {n : Nat} {g r : G} {w : W} {ws : List W} {env : Env} {Q : Env → Prop} : Ok (asg n (.cons g r) (w :: ws) env) Q ↔ Ok (asg n g [w] env) fun e => Ok (asg n r ws e) Q := by
  rw [asg]
  cases asg n g [w] env with
  | none => exact ok_n
  | some e => rw [ok_some]
theorem getD_app {xs ys : List Int} {k : Nat} (h : k < xs.length) : (xs ++ ys).getD k 0 = xs.getD k 0 := by
  rw [List.getD_eq_getElem?_getD, List.getD_eq_getElem?_getD, List.getElem?_append_left h]
theorem isF_il {xs : List Int} : isFs (xs.map W.int) = true := by
  induction xs with
  | nil => rfl
  | cons x xs ih =>
    rw [List.map_cons, isFs, ih]
    rfl
theorem frz_il {xs : List Int} : frzs (xs.map W.int) = xs.map W.int := by
  induction xs with
  | nil => rfl
  | cons x xs ih =>
    rw [List.map_cons, frzs, ih]
    rfl
theorem isF_lt {xs : List Int} : (il true xs).isF = false := rfl
theorem isF_lf {xs : List Int} : (il false xs).isF = true := by
  show (!false && isFs _) = true
  rw [isF_il]
  rfl
theorem upd_root {g : W → Option W} {w : W} {Q : W → Prop} : Ok (updP g [] w) Q ↔ Ok (g w) Q := by
  rw [updP]
theorem mut_app {T : Tab} {x : W} {ws : List W} {Q : W → Prop} : Ok (mutF T.fld .append [x] (.lst true ws)) Q ↔ ws.length < 1000000 ∧ Q (.lst true (ws ++ [x])) := by
  rw [mutF, ok_guard, ok_some]
  simp
theorem mut_setf {T : Tab} {f c : Nat} {fs : List Nat} {x : W} {ws : List W} {Q : W → Prop} (h : T.fld c f = true) (h1 : fs.length < 900) (h2 : fs.idxOf? f = none) : Ok (mutF T.fld (.setf f) [x] (.ins true c fs ws)) Q ↔ Q (.ins true c (fs ++ [f]) (ws ++ [x])) := by
  rw [mutF, ok_guard, h2]
  show _ ∧ Ok (some _) Q ↔ _
  rw [ok_some, h]
  simp [h1]
theorem sub_root {w : W} {Q : W → Prop} : Ok (subP [] w) Q ↔ Q w := by
  rw [subP, ok_some]
theorem pa_root {env : Env} {Q : List Ac → Prop} : Ok (evPa env .root) Q ↔ Q [] := by
  rw [evPa, ok_some]
end Nb
namespace Lk48
open Nb
/-- step_of as a function -/
def Stp (f u : Int → Int → Int) : Prop := ∀ (k : Nat) (d g : Int), 1 ≤ d → d ≤ 186 → 1 ≤ g → g ≤ 16000000 → rn (k + 4) 5 [.int d, .int g] = some (.tup [.int (f d g), .int (u d g)], []) ∧ d + 1 ≤ f d g ∧ f d g ≤ 5003
theorem ex_stp : ∃ f u, Stp f u := ⟨stp, stu, fun k d g h0 h1 h2 h4 => stp_eq (k := k) h0 h1 h2 h4⟩
/-- what palettes answers -/
def Pal (f : Int → Int → Int) (d g : Int) (xs : List Int) : Prop := (∃ r, xs = g :: r) ∧ (∀ x ∈ xs, 1 ≤ x ∧ x ≤ 16000000) ∧ (∀ k, k + 1 < xs.length → xs.getD (k + 1) 0 = f d (xs.getD k 0) * f d (xs.getD k 0) ∧ xs.getD (k + 1) 0 < xs.getD k 0) ∧ (∀ k, k + 1 = xs.length → xs.getD k 0 ≤ f d (xs.getD k 0) * f d (xs.getD k 0)) ∧ xs.length ≤ 6000
def muP : Env → Nat
  | [_, _, _, some (.lst _ ws), some (.int q), _] => match ws.getLast? with
    | some (.int l) => if q * q < l then q.toNat + 1 else 0
    | _ => 0
  | _ => 0
theorem muP_eq {a b c e : Option W} {xs : List Int} {l q : Int} : muP [a, b, c, some (il true (xs ++ [l])), some (.int q), e] = if q * q < l then q.toNat + 1 else 0 := by
  show (match ((xs ++ [l]).map W.int).getLast? with
    | some (.int l) => if q * q < l then q.toNat + 1 else 0
    | _ => 0) = _
  rw [List.map_append, List.map_singleton, List.getLast?_concat]
theorem palettes {f u : Int → Int → Int} (hs : Stp f u) {k : Nat} {d g : Int} (h0 : 1 ≤ d) (h1 : d ≤ 186) (h2 : 1 ≤ g) (h4 : g ≤ 16000000) : Ok (rn (k + 5) 6 [.tup [.int d, .int g]]) fun r => ∃ xs, r = (il false xs, []) ∧ Pal f d g xs := by
  have ft : ∀ l : Int, 1 ≤ l → l ≤ 16000000 → fit64 (f d l) = true := fun l a b => by
    have := (hs 0 d l h0 h1 a b).2
    unfold fit64
    simp
    omega
  refine ok_run (d := ⟨1, 0, 6, b6⟩) rfl rfl ?_
  simp only [b6, okS_cons, okS_asg, okE_var, okE_cal, okL_cons, okL_nil, okE_ds, get_z, get_s, ok_some, W.isF, isFs, Bool.and_true, Bool.true_and, W.frz, frzs, true_implies, reduceCtorEq, false_implies, and_true, asg_tup, asg_cons, asg_nil, asg_var, List.map, List.replicate, List.cons_append, List.nil_append, List.length, List.set, thn_next]
  refine ⟨by omega, by omega, ?_⟩
  show Ok (opD .lst [.int g]) _
  have e1 : opD .lst [.int g] = some (il true ([] ++ [g])) := rfl
  rw [e1]
  simp only [ok_some, (hs k d g h0 h1 h2 h4).1, asg_tup, asg_cons, asg_nil, asg_var, List.length, List.set, thn_next, okS_whl]
  refine ⟨by omega, by omega, by omega, ?_⟩
  refine ok_while (I := fun env => ∃ (xs : List Int) (l : Int), env = [some (.tup [.int d, .int g]), some (.int d), some (.int g), some (il true (xs ++ [l])), some (.int (f d l)), some (.int (u d l))] ∧ 1 ≤ l ∧ l ≤ 16000000 ∧ xs.length ≤ 5004 ∧ (f d l * f d l < l → xs.length + f d l ≤ 5004) ∧ (∃ r, xs ++ [l] = g :: r) ∧ (∀ x ∈ xs ++ [l], 1 ≤ x ∧ x ≤ 16000000) ∧ (∀ k, k + 1 < (xs ++ [l]).length → (xs ++ [l]).getD (k + 1) 0 = f d ((xs ++ [l]).getD k 0) * f d ((xs ++ [l]).getD k 0) ∧ (xs ++ [l]).getD (k + 1) 0 < (xs ++ [l]).getD k 0)) (mu := muP) ?_ _ _ ⟨[], g, rfl, h2, h4, by simp, fun _ => by have := (hs 0 d g h0 h1 h2 h4).2; simp only [List.length_nil]; omega, ⟨[], rfl⟩, by simpa using ⟨h2, h4⟩, by simp⟩ ?_
  · rintro env ⟨xs, l, rfl, hl1, hl2, hlen0, hlen, hr, hall, hch⟩
    have hst := (hs k d l h0 h1 hl1 hl2).2
    have hqq : d + 1 ≤ f d l := hst.1
    simp only [okE_pv, okP_bi, okP_un, okP_peek, okP_cst, get_z, get_s, ok_some, o_mul, o_neg, o_last, o_lt, ft l hl1 hl2, Bool.true_or, true_and, W.isF, two_dec, okS_cons, okS_mut, pa_root, sub_root, isLst, okL_cons, okL_nil, ok_mut1, upd_root, mut_app, thn_next, List.set, okS_asg]
    refine ⟨fun hlt => ?_, fun hge => ?_⟩
    · have hq0 : 0 ≤ f d l := by omega
      have hq1 : 1 * 1 ≤ f d l * f d l := Int.mul_le_mul (by omega) (by omega) (by omega) (by omega)
      have hst2 := hs k d (f d l * f d l) h0 h1 (by omega) (by omega)
      have hst3 : d + 1 ≤ f d (f d l * f d l) := hst2.2.1
      have hlen2 : xs.length < 5004 := by
        have := hlen hlt
        omega
      have hdec : f d (f d l * f d l) * f d (f d l * f d l) < f d l * f d l → f d (f d l * f d l) < f d l := fun z => by
        refine Int.not_le.mp fun y => ?_
        have := Int.mul_le_mul y y hq0 (by omega)
        omega
      have hcat : (xs ++ [l]).map W.int ++ [W.int (f d l * f d l)] = ((xs ++ [l]) ++ [f d l * f d l]).map W.int := by simp
      rw [hcat]
      simp only [get_z, get_s, ok_some, okE_cal, okL_cons, okL_nil, okE_var, okE_pv, okP_bi, okP_un, okP_peek, okP_cst, o_neg, o_last, W.isF, W.frz, frzs, true_implies, reduceCtorEq, false_implies, and_true, true_and, hst2.1, asg_tup, asg_cons, asg_nil, asg_var, List.set, thn_next, okS_nil, List.length]
      refine ⟨by simp only [List.length_map, List.length_append, List.length_cons, List.length_nil]; omega, by omega, by omega, ⟨xs ++ [l], f d l * f d l, rfl, by omega, by omega, by simp only [List.length_append, List.length_cons, List.length_nil]; have := hlen hlt; omega, fun z => ?_, ?_, ?_, ?_⟩, ?_⟩
      · have := hlen hlt
        have := hdec z
        simp only [List.length_append, List.length_cons, List.length_nil]
        omega
      · obtain ⟨r, hr⟩ := hr
        exact ⟨r ++ [f d l * f d l], by rw [hr]; rfl⟩
      · intro x hx
        rcases List.mem_append.mp hx with hx | hx
        · exact hall x hx
        · rw [List.mem_singleton.mp hx]
          omega
      · intro j hj
        by_cases hj2 : j + 1 < (xs ++ [l]).length
        · have := hch j hj2
          rw [getD_app (xs := xs ++ [l]) hj2, getD_app (xs := xs ++ [l]) (k := j) (by omega)]
          exact this
        · have hj3 : j = xs.length := by
            simp only [List.length_append, List.length_cons, List.length_nil] at hj hj2
            omega
          subst hj3
          have e1 : (xs ++ [l] ++ [f d l * f d l]).getD xs.length 0 = l := by simp
          have e2 : (xs ++ [l] ++ [f d l * f d l]).getD (xs.length + 1) 0 = f d l * f d l := by simp
          rw [e1, e2]
          exact ⟨rfl, hlt⟩
      · rw [muP_eq, muP_eq, if_pos hlt]
        split
        · rename_i z
          have := hdec z
          omega
        · omega
    · simp only [thn_next, okS_cons, okS_ret, okE_var, get_z, get_s, ok_some, thn_ret, lent_0]
      refine ⟨fun z => (by cases z), fun _ => ⟨xs ++ [l], ?_, hr, hall, hch, ?_, by simp only [List.length_append, List.length_cons, List.length_nil]; omega⟩⟩
      · show (W.lst false (frzs ((xs ++ [l]).map W.int)), []) = _
        rw [frz_il]
      · intro k hk
        have : k = xs.length := by simpa using hk
        subst this
        simpa using hge
  · rw [muP_eq]
    have := (hs k d g h0 h1 h2 h4).2
    show _ < 100000
    split <;> omega
end Lk48
end
section
set_option maxRecDepth 100000
namespace Nb
theorem ok_eq {α : Type} {o : Option α} {x : α} (h : Ok o fun r => r = x) : o = some x := by
  obtain ⟨r, e, q⟩ := h
  rw [e, q]
theorem mkOf_s {T : Tab} {ds : Nat → Option Def} {j : Nat} : mkOf T ds (j + 1) = run T ds j := rfl
section
variable {Q : W → Prop} {i j : Int}
theorem oE_add : Ok (opE .add [.int i, .int j]) Q ↔ Q (.int (i + j)) := ok_some
theorem oE_sub : Ok (opE .sub [.int i, .int j]) Q ↔ Q (.int (i - j)) := ok_some
theorem oE_eq : Ok (opE .eq [.int i, .int j]) Q ↔ Q (.bl (i == j)) := ok_some
theorem oE_ne : Ok (opE .ne [.int i, .int j]) Q ↔ Q (.bl (!(i == j))) := ok_some
theorem oE_gt : Ok (opE .gt [.int i, .int j]) Q ↔ Q (.bl (decide (j < i))) := ok_some
theorem oE_mul : Ok (opE .mul [.int i, .int j]) Q ↔ (fit64 i || fit64 j) = true ∧ Q (.int (i * j)) := by
  have e : opE .mul [.int i, .int j] = match guardO (fit64 i || fit64 j) (some (W.int (i * j))) with
    | some w => some w
    | none => opM .mul [.int i, .int j] := rfl
  rw [e]
  cases fit64 i || fit64 j with
  | true => exact ok_some.trans ⟨fun h => ⟨rfl, h⟩, fun h => h.2⟩
  | false => exact ⟨fun h => (ok_none.mp h).elim, fun h => absurd h.1 (by simp)⟩
theorem oE_max : Ok (opE .max2 [.int i, .int j]) Q ↔ Q (.int (max i j)) := by
  have : (if i < j then j else i) = max i j := by omega
  rw [← this]
  exact ok_some
theorem oE_len {b : Bool} {xs : List Int} : Ok (opE .len [il b xs]) Q ↔ Q (.int xs.length) := by
  show Ok (some (W.int (frzs (xs.map W.int)).length)) Q ↔ _
  rw [ok_some, frz_il, List.length_map]
theorem oE_idx {w : W} {ws : List W} (h : opF .idx [(W.tup ws).frz, .int i] = some w) : Ok (opE .idx [.tup ws, .int i]) Q ↔ Q w := by
  have e : opE .idx [.tup ws, .int i] = match opF .idx [(W.tup ws).frz, .int i] with
    | some w => some w
    | none => opM .idx (frzs [.tup ws, .int i]) := rfl
  rw [e, h, ok_some]
theorem o_id0 {a b : W} : Ok (opF .idx [.tup [a, b], .int 0]) Q ↔ Q a := ok_some
theorem o_id1 {a b : W} : Ok (opF .idx [.tup [a, b], .int 1]) Q ↔ Q b := ok_some
theorem oE_id0 {a b : W} : Ok (opE .idx [.tup [a, b], .int 0]) Q ↔ Q a.frz := ok_some
end
theorem clsW_i {p : Bool} {c : Nat} {fs : List Nat} {ws : List W} {Q : Nat → Prop} : Ok (clsW (.ins p c fs ws)) Q ↔ Q c := ok_some
theorem fit_s {i : Int} (h : -1000000000 ≤ i) (h1 : i ≤ 1000000000) : fit64 i = true := by
  unfold fit64
  simp
  omega
end Nb
namespace Lk48
open Nb
/-- palettes as a function -/
def Plt (f : Int → Int → Int) (p : Int → Int → List Int) : Prop := ∀ (k : Nat) (d g : Int), 1 ≤ d → d ≤ 186 → 1 ≤ g → g ≤ 16000000 → rn (k + 5) 6 [.tup [.int d, .int g]] = some (il false (p d g), []) ∧ Pal f d g (p d g)
theorem ex_plt {f u : Int → Int → Int} (hs : Stp f u) : ∃ p, Plt f p := by
  have h : ∀ d g : Int, ∃ xs : List Int, 1 ≤ d → d ≤ 186 → 1 ≤ g → g ≤ 16000000 → rn (0 + 5) 6 [.tup [.int d, .int g]] = some (il false xs, []) ∧ Pal f d g xs := fun d g => by
    by_cases hc : 1 ≤ d ∧ d ≤ 186 ∧ 1 ≤ g ∧ g ≤ 16000000
    · obtain ⟨r, e, xs, rfl, hx⟩ := palettes hs (k := 0) hc.1 hc.2.1 hc.2.2.1 hc.2.2.2
      exact ⟨xs, fun _ _ _ _ => ⟨e, hx⟩⟩
    · exact ⟨[], fun a b c d => absurd ⟨a, b, c, d⟩ hc⟩
  refine ⟨fun d g => Classical.choose (h d g), fun k d g h0 h1 h2 h4 => ?_⟩
  obtain ⟨e, hx⟩ := Classical.choose_spec (h d g) h0 h1 h2 h4
  exact ⟨run_le (by omega) _ _ _ e, hx⟩
abbrev B (d g : Int) : W := .tup [.int d, .int g]
/-- rounds of colors -/
def col (p : Int → Int → List Int) (d g : Int) : Int := ((p d g).length : Int) - 1 + max 0 ((p d g).getLastD 0 - d - 1)
section
variable {f u : Int → Int → Int} {p : Int → Int → List Int} {d g : Int} {k : Nat} {s : W}
theorem cons_last {xs : List Int} {g : Int} {r : List Int} (h : xs = g :: r) : ∃ ys, xs = ys ++ [xs.getLastD 0] := by
  subst h
  refine ⟨(g :: r).dropLast, ?_⟩
  have h := List.dropLast_concat_getLast (l := g :: r) (by simp)
  rw [List.getLastD_cons]
  rw [List.getLast_eq_getLastD] at h
  exact h.symm
theorem r_shrink (hp : Plt f p) (h0 : 1 ≤ d) (h1 : d ≤ 186) (h2 : 1 ≤ g) (h4 : g ≤ 16000000) : rn (k + 6) 8 [s, B d g] = some (.int (((p d g).length : Int) - 1), []) := by
  refine ok_eq (ok_run (d := ⟨2, 0, 2, b8⟩) rfl rfl ?_)
  have e := (hp k d g h0 h1 h2 h4).1
  simp only [b8, okS_cons, okS_ret, okE_bi, okE_un, okE_cal, okE_var, okE_pv, okP_cst, okL_cons, okL_nil, get_z, get_s, ok_some, W.isF, isFs, Bool.and_true, Bool.true_and, W.frz, frzs, true_implies, reduceCtorEq, false_implies, and_true, true_and, List.map, List.replicate, List.cons_append, List.nil_append, thn_ret, lent_0, e, oE_len, oE_sub]
theorem r_colors (hp : Plt f p) (h0 : 1 ≤ d) (h1 : d ≤ 186) (h2 : 1 ≤ g) (h4 : g ≤ 16000000) : rn (k + 6) 12 [s, B d g] = some (.int (col p d g), []) := by
  refine ok_eq (ok_run (d := ⟨2, 0, 3, b12⟩) rfl rfl ?_)
  obtain ⟨e, ⟨⟨r, hr⟩, _⟩⟩ := hp k d g h0 h1 h2 h4
  obtain ⟨ys, hy⟩ := cons_last hr
  have hl : ∀ {Q : W → Prop}, Ok (opF .idx [il false (p d g), .int (-1)]) Q ↔ Q (.int ((p d g).getLastD 0)) := by
    intro Q
    have := @o_last false ys ((p d g).getLastD 0) Q
    rw [← hy] at this
    exact this
  simp only [b12, okS_cons, okS_ret, okS_asg, asg_var, okE_cal, okE_var, okE_pv, okP_bi, okP_un, okP_peek, okP_cst, okL_cons, okL_nil, get_z, get_s, ok_some, W.isF, isFs, Bool.and_true, Bool.true_and, W.frz, frzs, true_implies, reduceCtorEq, false_implies, and_true, true_and, List.map, List.replicate, List.cons_append, List.nil_append, List.set, List.length, thn_ret, thn_next, lent_0, e, o_lenl, o_sub, o_neg, hl, o_id0, o_max, o_add, List.length_map]
  exact ⟨by omega, rfl⟩
end
end Lk48
end
section
set_option maxRecDepth 100000
namespace Nb
section
variable {Q : W → Prop} {b : Bool} {c : Nat} {x y z w : W}
theorem fl1 : Ok (opF (.fld 9) [.ins b c [9, 10, 1] [x, y, z]]) Q ↔ Q x := ok_some
theorem fl2 : Ok (opF (.fld 10) [.ins b c [9, 10, 1] [x, y, z]]) Q ↔ Q y := ok_some
theorem fl3 : Ok (opF (.fld 13) [.ins b c [13, 14, 15, 1] [x, y, z, w]]) Q ↔ Q x := ok_some
theorem fl4 : Ok (opF (.fld 14) [.ins b c [13, 14, 15, 1] [x, y, z, w]]) Q ↔ Q y := ok_some
theorem fl5 : Ok (opF (.fld 13) [.ins b c [13, 1] [x, y]]) Q ↔ Q x := ok_some
theorem fl6 : Ok (opF (.fld 8) [.ins b c [8, 1] [x, y]]) Q ↔ Q x := ok_some
theorem fl7 : Ok (opF (.fld 13) [.ins b c [13, 19, 20, 1] [x, y, z, w]]) Q ↔ Q x := ok_some
theorem fl8 : Ok (opF (.fld 19) [.ins b c [13, 19, 20, 1] [x, y, z, w]]) Q ↔ Q y := ok_some
theorem fl9 : Ok (opF (.fld 20) [.ins b c [13, 19, 20, 1] [x, y, z, w]]) Q ↔ Q z := ok_some
theorem fl10 : Ok (opF (.fld 22) [.ins b c [22, 1] [x, y]]) Q ↔ Q x := ok_some
theorem fl11 : Ok (opF (.fld 1) [.ins b c [1] [x]]) Q ↔ Q x := ok_some
end
end Nb
namespace Lk48
open Nb
section
variable {d g m x y e : Int} {k ca cb fa fb c : Nat} {s a b v w : W} {bb : Bool}
theorem r_fewer : rn (k + 1) 10 [.ins false 2 [8, 1] [.int m, .bl bb], B d g] = some (.int (max 0 (m - d - 1)), []) := by
  refine ok_eq (ok_run (d := ⟨2, 0, 2, b10⟩) rfl rfl ?_)
  simp only [b10, fl6, okS_cons, okS_nil, okS_ret, okS_asg, okS_iff, okS_expr, okS_aug, asg_var, asg_tup, asg_cons, asg_nil, okE_cal, okE_var, okE_pv, okE_bi, okE_un, okE_ds, okE_not, okE_or, okE_and, okP_bi, okP_un, okP_peek, okP_cst, okP_or, okP_and, okP_not, okL_cons, okL_nil, get_z, get_s, ok_some, W.isF, isFs, Bool.and_true, Bool.true_and, Bool.not_false, W.frz, frzs, true_implies, reduceCtorEq, false_implies, and_true, true_and, List.map, List.replicate, List.cons_append, List.nil_append, List.set, List.length, thn_ret, thn_next, lent_0, o_add, o_sub, o_mul, o_fdiv, o_mod, o_lt, o_le, o_gt, o_ge, o_eq, o_ne, o_neg, o_max, o_min, o_int, o_id0, o_id1, o_lenl, o_lent, o_bitl, two_dec, two_eq, opD_tup, oE_add, oE_sub, oE_mul, oE_eq, oE_ne, oE_gt, oE_max, oE_len, oE_id0]
theorem r_ind : rn (k + 1) 16 [s, B d g] = some (.int (d + 1), []) := by
  refine ok_eq (ok_run (d := ⟨2, 0, 2, b16⟩) rfl rfl ?_)
  simp only [b16, okS_cons, okS_nil, okS_ret, okS_asg, okS_iff, okS_expr, okS_aug, asg_var, asg_tup, asg_cons, asg_nil, okE_cal, okE_var, okE_pv, okE_bi, okE_un, okE_ds, okE_not, okE_or, okE_and, okP_bi, okP_un, okP_peek, okP_cst, okP_or, okP_and, okP_not, okL_cons, okL_nil, get_z, get_s, ok_some, W.isF, isFs, Bool.and_true, Bool.true_and, Bool.not_false, W.frz, frzs, true_implies, reduceCtorEq, false_implies, and_true, true_and, List.map, List.replicate, List.cons_append, List.nil_append, List.set, List.length, thn_ret, thn_next, lent_0, o_add, o_sub, o_mul, o_fdiv, o_mod, o_lt, o_le, o_gt, o_ge, o_eq, o_ne, o_neg, o_max, o_min, o_int, o_id0, o_id1, o_lenl, o_lent, o_bitl, two_dec, two_eq, opD_tup, oE_add, oE_sub, oE_mul, oE_eq, oE_ne, oE_gt, oE_max, oE_len, oE_id0]
theorem r_cut : rn (k + 1) 31 [s, B d g] = some (.int (d + 1), []) := by
  refine ok_eq (ok_run (d := ⟨2, 0, 2, b31⟩) rfl rfl ?_)
  simp only [b31, okS_cons, okS_nil, okS_ret, okS_asg, okS_iff, okS_expr, okS_aug, asg_var, asg_tup, asg_cons, asg_nil, okE_cal, okE_var, okE_pv, okE_bi, okE_un, okE_ds, okE_not, okE_or, okE_and, okP_bi, okP_un, okP_peek, okP_cst, okP_or, okP_and, okP_not, okL_cons, okL_nil, get_z, get_s, ok_some, W.isF, isFs, Bool.and_true, Bool.true_and, Bool.not_false, W.frz, frzs, true_implies, reduceCtorEq, false_implies, and_true, true_and, List.map, List.replicate, List.cons_append, List.nil_append, List.set, List.length, thn_ret, thn_next, lent_0, o_add, o_sub, o_mul, o_fdiv, o_mod, o_lt, o_le, o_gt, o_ge, o_eq, o_ne, o_neg, o_max, o_min, o_int, o_id0, o_id1, o_lenl, o_lent, o_bitl, two_dec, two_eq, opD_tup, oE_add, oE_sub, oE_mul, oE_eq, oE_ne, oE_gt, oE_max, oE_len, oE_id0]
theorem r_match (h0 : 1 ≤ d) (h1 : d ≤ 186) : rn (k + 1) 38 [s, B d g] = some (.int (2 * d * (d + 1)), []) := by
  refine ok_eq (ok_run (d := ⟨2, 0, 2, b38⟩) rfl rfl ?_)
  simp only [b38, fit_s (i := d) (by omega) (by omega), fit_s (i := d + 1) (by omega) (by omega), Bool.or_true, okS_cons, okS_nil, okS_ret, okS_asg, okS_iff, okS_expr, okS_aug, asg_var, asg_tup, asg_cons, asg_nil, okE_cal, okE_var, okE_pv, okE_bi, okE_un, okE_ds, okE_not, okE_or, okE_and, okP_bi, okP_un, okP_peek, okP_cst, okP_or, okP_and, okP_not, okL_cons, okL_nil, get_z, get_s, ok_some, W.isF, isFs, Bool.and_true, Bool.true_and, Bool.not_false, W.frz, frzs, true_implies, reduceCtorEq, false_implies, and_true, true_and, List.map, List.replicate, List.cons_append, List.nil_append, List.set, List.length, thn_ret, thn_next, lent_0, o_add, o_sub, o_mul, o_fdiv, o_mod, o_lt, o_le, o_gt, o_ge, o_eq, o_ne, o_neg, o_max, o_min, o_int, o_id0, o_id1, o_lenl, o_lent, o_bitl, two_dec, two_eq, opD_tup, oE_add, oE_sub, oE_mul, oE_eq, oE_ne, oE_gt, oE_max, oE_len, oE_id0]
theorem r_cover (h0 : 1 ≤ d) (h1 : d ≤ 186) : rn (k + 1) 41 [s, B d g] = some (.int (2 * d), []) := by
  refine ok_eq (ok_run (d := ⟨2, 0, 2, b41⟩) rfl rfl ?_)
  simp only [b41, fit_s (i := d) (by omega) (by omega), Bool.or_true, okS_cons, okS_nil, okS_ret, okS_asg, okS_iff, okS_expr, okS_aug, asg_var, asg_tup, asg_cons, asg_nil, okE_cal, okE_var, okE_pv, okE_bi, okE_un, okE_ds, okE_not, okE_or, okE_and, okP_bi, okP_un, okP_peek, okP_cst, okP_or, okP_and, okP_not, okL_cons, okL_nil, get_z, get_s, ok_some, W.isF, isFs, Bool.and_true, Bool.true_and, Bool.not_false, W.frz, frzs, true_implies, reduceCtorEq, false_implies, and_true, true_and, List.map, List.replicate, List.cons_append, List.nil_append, List.set, List.length, thn_ret, thn_next, lent_0, o_add, o_sub, o_mul, o_fdiv, o_mod, o_lt, o_le, o_gt, o_ge, o_eq, o_ne, o_neg, o_max, o_min, o_int, o_id0, o_id1, o_lenl, o_lent, o_bitl, two_dec, two_eq, opD_tup, oE_add, oE_sub, oE_mul, oE_eq, oE_ne, oE_gt, oE_max, oE_len, oE_id0]
theorem r_spread : rn (k + 1) 46 [.ins false 21 [22, 1] [.int m, .bl bb], B d g] = some (.int m, []) := by
  refine ok_eq (ok_run (d := ⟨2, 0, 2, b46⟩) rfl rfl ?_)
  simp only [b46, fl10, okS_cons, okS_nil, okS_ret, okS_asg, okS_iff, okS_expr, okS_aug, asg_var, asg_tup, asg_cons, asg_nil, okE_cal, okE_var, okE_pv, okE_bi, okE_un, okE_ds, okE_not, okE_or, okE_and, okP_bi, okP_un, okP_peek, okP_cst, okP_or, okP_and, okP_not, okL_cons, okL_nil, get_z, get_s, ok_some, W.isF, isFs, Bool.and_true, Bool.true_and, Bool.not_false, W.frz, frzs, true_implies, reduceCtorEq, false_implies, and_true, true_and, List.map, List.replicate, List.cons_append, List.nil_append, List.set, List.length, thn_ret, thn_next, lent_0, o_add, o_sub, o_mul, o_fdiv, o_mod, o_lt, o_le, o_gt, o_ge, o_eq, o_ne, o_neg, o_max, o_min, o_int, o_id0, o_id1, o_lenl, o_lent, o_bitl, two_dec, two_eq, opD_tup, oE_add, oE_sub, oE_mul, oE_eq, oE_ne, oE_gt, oE_max, oE_len, oE_id0]
/-- digits -/
def dig (g : Int) : Int := max 1 (bitLen (g - 1).natAbs)
theorem r_digits : rn (k + 1) 22 [B d g] = some (.int (dig g), []) := by
  refine ok_eq (ok_run (d := ⟨1, 0, 1, b22⟩) rfl rfl ?_)
  simp only [b22, okS_cons, okS_nil, okS_ret, okS_asg, okS_iff, okS_expr, okS_aug, asg_var, asg_tup, asg_cons, asg_nil, okE_cal, okE_var, okE_pv, okE_bi, okE_un, okE_ds, okE_not, okE_or, okE_and, okP_bi, okP_un, okP_peek, okP_cst, okP_or, okP_and, okP_not, okL_cons, okL_nil, get_z, get_s, ok_some, W.isF, isFs, Bool.and_true, Bool.true_and, Bool.not_false, W.frz, frzs, true_implies, reduceCtorEq, false_implies, and_true, true_and, List.map, List.replicate, List.cons_append, List.nil_append, List.set, List.length, thn_ret, thn_next, lent_0, o_add, o_sub, o_mul, o_fdiv, o_mod, o_lt, o_le, o_gt, o_ge, o_eq, o_ne, o_neg, o_max, o_min, o_int, o_id0, o_id1, o_lenl, o_lent, o_bitl, two_dec, two_eq, opD_tup, oE_add, oE_sub, oE_mul, oE_eq, oE_ne, oE_gt, oE_max, oE_len, oE_id0, dig]
theorem r_rulers : rn (k + 2) 24 [s, B d g] = some (.int (dig g), []) := by
  refine ok_eq (ok_run (d := ⟨2, 0, 2, b24⟩) rfl rfl ?_)
  simp only [b24, okS_cons, okS_nil, okS_ret, okS_asg, okS_iff, okS_expr, okS_aug, asg_var, asg_tup, asg_cons, asg_nil, okE_cal, okE_var, okE_pv, okE_bi, okE_un, okE_ds, okE_not, okE_or, okE_and, okP_bi, okP_un, okP_peek, okP_cst, okP_or, okP_and, okP_not, okL_cons, okL_nil, get_z, get_s, ok_some, W.isF, isFs, Bool.and_true, Bool.true_and, Bool.not_false, W.frz, frzs, true_implies, reduceCtorEq, false_implies, and_true, true_and, List.map, List.replicate, List.cons_append, List.nil_append, List.set, List.length, thn_ret, thn_next, lent_0, o_add, o_sub, o_mul, o_fdiv, o_mod, o_lt, o_le, o_gt, o_ge, o_eq, o_ne, o_neg, o_max, o_min, o_int, o_id0, o_id1, o_lenl, o_lent, o_bitl, two_dec, two_eq, opD_tup, oE_add, oE_sub, oE_mul, oE_eq, oE_ne, oE_gt, oE_max, oE_len, oE_id0, r_digits]
theorem r_clusters : rn (k + 2) 26 [s, B d g] = some (.int (dig g), []) := by
  refine ok_eq (ok_run (d := ⟨2, 0, 2, b26⟩) rfl rfl ?_)
  simp only [b26, okS_cons, okS_nil, okS_ret, okS_asg, okS_iff, okS_expr, okS_aug, asg_var, asg_tup, asg_cons, asg_nil, okE_cal, okE_var, okE_pv, okE_bi, okE_un, okE_ds, okE_not, okE_or, okE_and, okP_bi, okP_un, okP_peek, okP_cst, okP_or, okP_and, okP_not, okL_cons, okL_nil, get_z, get_s, ok_some, W.isF, isFs, Bool.and_true, Bool.true_and, Bool.not_false, W.frz, frzs, true_implies, reduceCtorEq, false_implies, and_true, true_and, List.map, List.replicate, List.cons_append, List.nil_append, List.set, List.length, thn_ret, thn_next, lent_0, o_add, o_sub, o_mul, o_fdiv, o_mod, o_lt, o_le, o_gt, o_ge, o_eq, o_ne, o_neg, o_max, o_min, o_int, o_id0, o_id1, o_lenl, o_lent, o_bitl, two_dec, two_eq, opD_tup, oE_add, oE_sub, oE_mul, oE_eq, oE_ne, oE_gt, oE_max, oE_len, oE_id0, r_digits]
theorem r_sums : rn (k + 2) 29 [s, B d g] = some (.int (4 * dig g), []) := by
  refine ok_eq (ok_run (d := ⟨2, 0, 2, b29⟩) rfl rfl ?_)
  simp only [b29, okS_cons, okS_nil, okS_ret, okS_asg, okS_iff, okS_expr, okS_aug, asg_var, asg_tup, asg_cons, asg_nil, okE_cal, okE_var, okE_pv, okE_bi, okE_un, okE_ds, okE_not, okE_or, okE_and, okP_bi, okP_un, okP_peek, okP_cst, okP_or, okP_and, okP_not, okL_cons, okL_nil, get_z, get_s, ok_some, W.isF, isFs, Bool.and_true, Bool.true_and, Bool.not_false, W.frz, frzs, true_implies, reduceCtorEq, false_implies, and_true, true_and, List.map, List.replicate, List.cons_append, List.nil_append, List.set, List.length, thn_ret, thn_next, lent_0, o_add, o_sub, o_mul, o_fdiv, o_mod, o_lt, o_le, o_gt, o_ge, o_eq, o_ne, o_neg, o_max, o_min, o_int, o_id0, o_id1, o_lenl, o_lent, o_bitl, two_dec, two_eq, opD_tup, oE_add, oE_sub, oE_mul, oE_eq, oE_ne, oE_gt, oE_max, oE_len, oE_id0, r_digits, fit_s (i := 4) (by omega) (by omega), Bool.true_or]
/-- an algorithm that tells its rounds at bounds -/
structure Tells (k : Nat) (a bs : W) (x : Int) : Prop where
  fr : a.isF = true
  fz : a.frz = a
  cl : ∃ c f, clsW a = some c ∧ T.meth c 11 = some f ∧ rn k f [a, bs] = some (.int x, [])
theorem tell_ok {bs : W} (h : Tells k a bs x) {Q : W × List W → Prop} : (Ok (clsW a) fun c => Ok (T.meth c 11) fun f => Ok (rn k f [a, bs]) Q) ↔ Q (.int x, []) := by
  obtain ⟨c, f, h1, h2, h3⟩ := h.cl
  rw [h1, ok_some, h2, ok_some, h3, ok_some]
theorem Tells.up {bs : W} {j : Nat} (h : Tells k a bs x) (hj : k ≤ j) : Tells j a bs x := ⟨h.fr, h.fz, let ⟨c, f, h1, h2, h3⟩ := h.cl; ⟨c, f, h1, h2, run_le hj _ _ _ h3⟩⟩
theorem r_then (ha : Tells k a (B d g) x) (hb : Tells k b (B d g) y) : rn (k + 1) 14 [.ins false c [9, 10, 1] [a, b, v], B d g] = some (.int (x + y), []) := by
  refine ok_eq (ok_run (d := ⟨2, 0, 2, b14⟩) rfl rfl ?_)
  simp only [b14, okE_mtv, fl1, fl2, ha.fr, ha.fz, hb.fr, hb.fz, tell_ok ha, tell_ok hb, okS_cons, okS_nil, okS_ret, okS_asg, okS_iff, okS_expr, okS_aug, asg_var, asg_tup, asg_cons, asg_nil, okE_cal, okE_var, okE_pv, okE_bi, okE_un, okE_ds, okE_not, okE_or, okE_and, okP_bi, okP_un, okP_peek, okP_cst, okP_or, okP_and, okP_not, okL_cons, okL_nil, get_z, get_s, ok_some, W.isF, isFs, Bool.and_true, Bool.true_and, Bool.not_false, W.frz, frzs, true_implies, reduceCtorEq, false_implies, and_true, true_and, List.map, List.replicate, List.cons_append, List.nil_append, List.set, List.length, thn_ret, thn_next, lent_0, o_add, o_sub, o_mul, o_fdiv, o_mod, o_lt, o_le, o_gt, o_ge, o_eq, o_ne, o_neg, o_max, o_min, o_int, o_id0, o_id1, o_lenl, o_lent, o_bitl, two_dec, two_eq, opD_tup, oE_add, oE_sub, oE_mul, oE_eq, oE_ne, oE_gt, oE_max, oE_len, oE_id0]
theorem r_onpow {t0 l0 : Int} (h0 : 0 ≤ e) (h1 : e ≤ 1000) (hb : rn k 18 [B d g, .int e] = some (B t0 l0, [])) (ha : Tells k a (B t0 l0) x) : rn (k + 1) 20 [.ins false c [13, 14, 15, 1] [a, .int e, v, w], B d g] = some (.int (e * (1 + x)), []) := by
  refine ok_eq (ok_run (d := ⟨2, 0, 2, b20⟩) rfl rfl ?_)
  simp only [b20, okE_mtv, fl3, fl4, ha.fr, ha.fz, tell_ok ha, hb, fit_s (i := e) (by omega) (by omega), Bool.true_or, okS_cons, okS_nil, okS_ret, okS_asg, okS_iff, okS_expr, okS_aug, asg_var, asg_tup, asg_cons, asg_nil, okE_cal, okE_var, okE_pv, okE_bi, okE_un, okE_ds, okE_not, okE_or, okE_and, okP_bi, okP_un, okP_peek, okP_cst, okP_or, okP_and, okP_not, okL_cons, okL_nil, get_z, get_s, ok_some, W.isF, isFs, Bool.and_true, Bool.true_and, Bool.not_false, W.frz, frzs, true_implies, reduceCtorEq, false_implies, and_true, true_and, List.map, List.replicate, List.cons_append, List.nil_append, List.set, List.length, thn_ret, thn_next, lent_0, o_add, o_sub, o_mul, o_fdiv, o_mod, o_lt, o_le, o_gt, o_ge, o_eq, o_ne, o_neg, o_max, o_min, o_int, o_id0, o_id1, o_lenl, o_lent, o_bitl, two_dec, two_eq, opD_tup, oE_add, oE_sub, oE_mul, oE_eq, oE_ne, oE_gt, oE_max, oE_len, oE_id0]
theorem r_onlink {t0 l0 : Int} (hb : rn k 33 [B d g] = some (B t0 l0, [])) (ha : Tells k a (B t0 l0) x) : rn (k + 1) 35 [.ins false c [13, 1] [a, v], B d g] = some (.int (3 + 2 * x), []) := by
  refine ok_eq (ok_run (d := ⟨2, 0, 2, b35⟩) rfl rfl ?_)
  simp only [b35, okE_mtv, fl5, ha.fr, ha.fz, tell_ok ha, hb, fit_s (i := 2) (by omega) (by omega), Bool.true_or, okS_cons, okS_nil, okS_ret, okS_asg, okS_iff, okS_expr, okS_aug, asg_var, asg_tup, asg_cons, asg_nil, okE_cal, okE_var, okE_pv, okE_bi, okE_un, okE_ds, okE_not, okE_or, okE_and, okP_bi, okP_un, okP_peek, okP_cst, okP_or, okP_and, okP_not, okL_cons, okL_nil, get_z, get_s, ok_some, W.isF, isFs, Bool.and_true, Bool.true_and, Bool.not_false, W.frz, frzs, true_implies, reduceCtorEq, false_implies, and_true, true_and, List.map, List.replicate, List.cons_append, List.nil_append, List.set, List.length, thn_ret, thn_next, lent_0, o_add, o_sub, o_mul, o_fdiv, o_mod, o_lt, o_le, o_gt, o_ge, o_eq, o_ne, o_neg, o_max, o_min, o_int, o_id0, o_id1, o_lenl, o_lent, o_bitl, two_dec, two_eq, opD_tup, oE_add, oE_sub, oE_mul, oE_eq, oE_ne, oE_gt, oE_max, oE_len, oE_id0]
theorem r_links (h0 : 1 ≤ g) (h1 : g ≤ 4000) (h2 : 1 ≤ d) (h3 : d ≤ 186) : rn (k + 1) 33 [B d g] = some (B (max 1 (2 * d - 2)) (g * g), []) := by
  refine ok_eq (ok_run (d := ⟨1, 0, 3, b33⟩) rfl rfl ?_)
  simp only [b33, fit_s (i := g) (by omega) (by omega), fit_s (i := 2) (by omega) (by omega), fit_s (i := d) (by omega) (by omega), Bool.true_or, okS_cons, okS_nil, okS_ret, okS_asg, okS_iff, okS_expr, okS_aug, asg_var, asg_tup, asg_cons, asg_nil, okE_cal, okE_var, okE_pv, okE_bi, okE_un, okE_ds, okE_not, okE_or, okE_and, okP_bi, okP_un, okP_peek, okP_cst, okP_or, okP_and, okP_not, okL_cons, okL_nil, get_z, get_s, ok_some, W.isF, isFs, Bool.and_true, Bool.true_and, Bool.not_false, W.frz, frzs, true_implies, reduceCtorEq, false_implies, and_true, true_and, List.map, List.replicate, List.cons_append, List.nil_append, List.set, List.length, thn_ret, thn_next, lent_0, o_add, o_sub, o_mul, o_fdiv, o_mod, o_lt, o_le, o_gt, o_ge, o_eq, o_ne, o_neg, o_max, o_min, o_int, o_id0, o_id1, o_lenl, o_lent, o_bitl, two_dec, two_eq, opD_tup, oE_add, oE_sub, oE_mul, oE_eq, oE_ne, oE_gt, oE_max, oE_len, oE_id0]
  exact ⟨by omega, by omega, by omega⟩
end
end Lk48
end
section
set_option maxRecDepth 100000
namespace Lk48
open Nb
section
variable {k : Nat} {m e : Int} {a : W}
abbrev tr : W := .bl true
abbrev fa : W := .bl false
abbrev o3 : W := .ins false 3 [1] [tr]
abbrev o5 : W := .ins false 5 [1] [fa]
abbrev o9 : W := .ins false 9 [1] [tr]
abbrev o10 : W := .ins false 10 [1] [tr]
abbrev o13 : W := .ins false 13 [1] [fa]
abbrev o17 : W := .ins false 17 [1] [fa]
abbrev o19 : W := .ins false 19 [1] [fa]
theorem mk1 : rn (k + 10) 7 [.ins true 1 [] []] = some (.non, [.ins true 1 [1] [tr]]) := rfl
theorem mk2 : rn (k + 10) 9 [.ins true 2 [] [], .int m] = some (.non, [.ins true 2 [8, 1] [.int m, fa]]) := rfl
theorem mk3 : rn (k + 10) 11 [.ins true 3 [] []] = some (.non, [.ins true 3 [1] [tr]]) := rfl
theorem mk4a : rn (k + 10) 13 [.ins true 4 [] [], o3, o5] = some (.non, [.ins true 4 [9, 10, 1] [o3, o5, tr]]) := rfl
theorem mk4b : rn (k + 10) 13 [.ins true 4 [] [], o3, o13] = some (.non, [.ins true 4 [9, 10, 1] [o3, o13, tr]]) := rfl
theorem mk5 : rn (k + 10) 15 [.ins true 5 [] []] = some (.non, [.ins true 5 [1] [fa]]) := rfl
theorem mk6 : rn (k + 10) 17 [.ins true 6 [] []] = some (.non, [.ins true 6 [9, 10, 1] [o3, o5, tr]]) := rfl
abbrev gat (e : Int) : W := .ins true 0 [0, 1] [.int e, tr]
abbrev gaf (e : Int) : W := .ins false 0 [0, 1] [.int e, tr]
theorem mk7 : rn (k + 10) 19 [.ins true 7 [] [], .ins false 21 [22, 1] [.int m, fa], .int e] = some (.non, [.ins true 7 [13, 14, 15, 1] [.ins false 21 [22, 1] [.int m, fa], .int e, gat e, tr]]) := rfl
theorem mk8 : rn (k + 10) 21 [.ins true 8 [] [], .int e] = some (.non, [.ins true 8 [13, 14, 15, 1] [o3, .int e, gat e, tr]]) := rfl
theorem mk9 : rn (k + 10) 23 [.ins true 9 [] []] = some (.non, [.ins true 9 [1] [tr]]) := rfl
theorem mk11 : rn (k + 10) 27 [.ins true 11 [] []] = some (.non, [.ins true 11 [9, 10, 1] [o9, o10, tr]]) := rfl
theorem mk12 : rn (k + 10) 28 [.ins true 12 [] []] = some (.non, [.ins true 12 [17, 1] [.ins true 11 [9, 10, 1] [o9, o10, tr], tr]]) := rfl
theorem mk13 : rn (k + 10) 30 [.ins true 13 [] []] = some (.non, [.ins true 13 [1] [fa]]) := rfl
theorem mk14 : rn (k + 10) 32 [.ins true 14 [] []] = some (.non, [.ins true 14 [9, 10, 1] [o3, o13, tr]]) := rfl
theorem mk15 : rn (k + 10) 34 [.ins true 15 [] [], o19] = some (.non, [.ins true 15 [13, 1] [o19, tr]]) := rfl
theorem mk16 : rn (k + 10) 36 [.ins true 16 [] []] = some (.non, [.ins true 16 [13, 1] [o3, tr]]) := rfl
theorem mk18 : rn (k + 10) 39 [.ins true 18 [] []] = some (.non, [.ins true 18 [9, 10, 1] [o3, o17, tr]]) := rfl
theorem mk19 : rn (k + 10) 40 [.ins true 19 [] []] = some (.non, [.ins true 19 [1] [fa]]) := rfl
theorem mk21 : rn (k + 10) 45 [.ins true 21 [] [], .int m] = some (.non, [.ins true 21 [22, 1] [.int m, fa]]) := rfl
end
end Lk48
end
section
set_option maxRecDepth 100000
namespace Nb
theorem ok_loop_nil {bind : W → Env → Option Env} {body : Env → Rs} {env : Env} {Q : Fl × Env → Prop} : Ok (loopF bind body [] env) Q ↔ Q (.next, env) := by
  rw [loopF, ok_some]
theorem ok_loop_cons {bind : W → Env → Option Env} {body : Env → Rs} {env : Env} {x : W} {xs : List W} {Q : Fl × Env → Prop} : Ok (loopF bind body (x :: xs) env) Q ↔ Ok (bind x env) fun e1 => Ok (body e1) fun r => match r.1 with
    | .next => Ok (loopF bind body xs r.2) Q
    | .cont => Ok (loopF bind body xs r.2) Q
    | .brk => Q (.next, r.2)
    | .ret w => Q (.ret w, r.2) := by
  rw [loopF]
  cases e1 : bind x env with
  | none => exact ok_n
  | some e2 =>
    rw [ok_some]
    show Ok (match body e2 with
      | some (.next, env2) => loopF bind body xs env2
      | some (.cont, env2) => loopF bind body xs env2
      | some (.brk, env2) => some (.next, env2)
      | some (.ret w, env2) => some (.ret w, env2)
      | none => none) Q ↔ _
    cases e3 : body e2 with
    | none => exact ok_n
    | some r =>
      obtain ⟨fl, e4⟩ := r
      rw [ok_some]
      cases fl with
      | next => exact Iff.rfl
      | cont => exact Iff.rfl
      | brk => exact ok_some
      | ret w => exact ok_some
end Nb
namespace Lk48
open Nb
/-- the loop of powers -/
def pwL (d : Int) : Nat → Int
  | 0 => d
  | j + 1 => pwL d j * (d - 1)
def pwT (d : Int) : Nat → Int
  | 0 => 0
  | j + 1 => pwT d j + pwL d j
section
variable {d g m x y e : Int} {k : Nat} {s a b v w : W} {bb : Bool}
theorem r_power (h0 : 1 ≤ d) (h1 : d ≤ 186) (h2 : 1 ≤ e) (h3 : e ≤ 1000) : rn (k + 1) 18 [B d g, .int e] = some (B (pwT d e.toNat) g, []) := by
  refine ok_eq (ok_run (d := ⟨2, 0, 7, b18⟩) rfl rfl ?_)
  simp only [b18, okS_for, ok_rng1, okS_cons, okS_nil, okS_ret, okS_asg, okS_iff, okS_expr, okS_aug, asg_var, asg_tup, asg_cons, asg_nil, okE_cal, okE_var, okE_pv, okE_bi, okE_un, okE_ds, okE_not, okE_or, okE_and, okP_bi, okP_un, okP_peek, okP_cst, okP_or, okP_and, okP_not, okL_cons, okL_nil, get_z, get_s, ok_some, W.isF, isFs, Bool.and_true, Bool.true_and, Bool.not_false, W.frz, frzs, true_implies, reduceCtorEq, false_implies, and_true, true_and, List.map, List.replicate, List.cons_append, List.nil_append, List.set, List.length, thn_ret, thn_next, lent_0, o_add, o_sub, o_mul, o_fdiv, o_mod, o_lt, o_le, o_gt, o_ge, o_eq, o_ne, o_neg, o_max, o_min, o_int, o_id0, o_id1, o_lenl, o_lent, o_bitl, two_dec, two_eq, opD_tup, oE_add, oE_sub, oE_mul, oE_eq, oE_ne, oE_gt, oE_max, oE_len, oE_id0]
  refine ⟨fun z => absurd z (by omega), fun _ => ⟨by omega, by omega, by omega, by omega, by omega, ?_⟩⟩
  refine ok_for (I := fun xs env => ∃ (j : Nat) (l : Option W), env = [some (B d g), some (.int e), some (.int d), some (.int g), some (.int (pwT d j)), some (.int (pwL d j)), l] ∧ xs.length + j = e.toNat) ?_ ?_ _ _ ⟨0, none, rfl, by simp⟩
  · rintro env ⟨j, l, rfl, h⟩
    have : j = e.toNat := by simpa using h
    subst this
    simp only [okS_cons, okS_nil, okS_ret, okS_asg, okS_iff, okS_expr, okS_aug, asg_var, asg_tup, asg_cons, asg_nil, okE_cal, okE_var, okE_pv, okE_bi, okE_un, okE_ds, okE_not, okE_or, okE_and, okP_bi, okP_un, okP_peek, okP_cst, okP_or, okP_and, okP_not, okL_cons, okL_nil, get_z, get_s, ok_some, W.isF, isFs, Bool.and_true, Bool.true_and, Bool.not_false, W.frz, frzs, true_implies, reduceCtorEq, false_implies, and_true, true_and, List.map, List.replicate, List.cons_append, List.nil_append, List.set, List.length, thn_ret, thn_next, lent_0, o_add, o_sub, o_mul, o_fdiv, o_mod, o_lt, o_le, o_gt, o_ge, o_eq, o_ne, o_neg, o_max, o_min, o_int, o_id0, o_id1, o_lenl, o_lent, o_bitl, two_dec, two_eq, opD_tup, oE_add, oE_sub, oE_mul, oE_eq, oE_ne, oE_gt, oE_max, oE_len, oE_id0]
    exact (by decide)
  · rintro x xs env ⟨j, l, rfl, h⟩
    simp only [fit_s (i := d - 1) (by omega) (by omega), Bool.or_true, okS_cons, okS_nil, okS_ret, okS_asg, okS_iff, okS_expr, okS_aug, asg_var, asg_tup, asg_cons, asg_nil, okE_cal, okE_var, okE_pv, okE_bi, okE_un, okE_ds, okE_not, okE_or, okE_and, okP_bi, okP_un, okP_peek, okP_cst, okP_or, okP_and, okP_not, okL_cons, okL_nil, get_z, get_s, ok_some, W.isF, isFs, Bool.and_true, Bool.true_and, Bool.not_false, W.frz, frzs, true_implies, reduceCtorEq, false_implies, and_true, true_and, List.map, List.replicate, List.cons_append, List.nil_append, List.set, List.length, thn_ret, thn_next, lent_0, o_add, o_sub, o_mul, o_fdiv, o_mod, o_lt, o_le, o_gt, o_ge, o_eq, o_ne, o_neg, o_max, o_min, o_int, o_id0, o_id1, o_lenl, o_lent, o_bitl, two_dec, two_eq, opD_tup, oE_add, oE_sub, oE_mul, oE_eq, oE_ne, oE_gt, oE_max, oE_len, oE_id0]
    refine ⟨by omega, by omega, by omega, j + 1, some x, rfl, ?_⟩
    simp only [List.length_cons] at h
    omega
theorem r_pieces {n l : Int} (h0 : 1 ≤ n) (h1 : n ≤ 1000) (h2 : 1 ≤ l) (hf : fit64 x = true) (ha : Tells k a (B d g) x) : rn (k + 1) 44 [.ins false 20 [13, 19, 20, 1] [a, .int n, .int l, .bl bb], B d g] = some (.int (x * ((l + n - 1) / n)), []) := by
  have hp : ∀ {k : Nat}, rn (k + 1) 43 [.ins false 20 [13, 19, 20, 1] [a, .int n, .int l, .bl bb]] = some (.int (-(-l / n)), []) := by
    intro k
    refine ok_eq (ok_run (d := ⟨1, 0, 1, b43⟩) rfl rfl ?_)
    simp only [b43, fl8, fl9, okS_cons, okS_nil, okS_ret, okS_asg, okS_iff, okS_expr, okS_aug, asg_var, asg_tup, asg_cons, asg_nil, okE_cal, okE_var, okE_pv, okE_bi, okE_un, okE_ds, okE_not, okE_or, okE_and, okP_bi, okP_un, okP_peek, okP_cst, okP_or, okP_and, okP_not, okL_cons, okL_nil, get_z, get_s, ok_some, W.isF, isFs, Bool.and_true, Bool.true_and, Bool.not_false, W.frz, frzs, true_implies, reduceCtorEq, false_implies, and_true, true_and, List.map, List.replicate, List.cons_append, List.nil_append, List.set, List.length, thn_ret, thn_next, lent_0, o_add, o_sub, o_mul, o_fdiv, o_mod, o_lt, o_le, o_gt, o_ge, o_eq, o_ne, o_neg, o_max, o_min, o_int, o_id0, o_id1, o_lenl, o_lent, o_bitl, two_dec, two_eq, opD_tup, oE_add, oE_sub, oE_mul, oE_eq, oE_ne, oE_gt, oE_max, oE_len, oE_id0]
    exact ⟨by omega, by omega⟩
  have hd : -(-l / n) = (l + n - 1) / n := by
    have h5 := Int.mul_ediv_add_emod (-l) n
    have h6 := Int.emod_nonneg (-l) (show n ≠ 0 by omega)
    have h7 := Int.emod_lt_of_pos (-l) (show 0 < n by omega)
    refine (Int.ediv_eq_iff_of_pos (by omega)).mpr ?_ |>.symm
    have h8 : -(-l / n) * n = -(n * (-l / n)) := by
      rw [Int.neg_mul, Int.mul_comm]
    constructor
    · omega
    · omega
  have h21 : ∀ {Q : W × List W → Prop}, (Ok (T.meth 20 21) fun f => Ok (rn k f [.ins false 20 [13, 19, 20, 1] [a, .int n, .int l, .bl bb]]) Q) ↔ Q (.int ((l + n - 1) / n), []) := by
    intro Q
    have : T.meth 20 21 = some 43 := rfl
    obtain ⟨c, f, _, _, h3⟩ := ha.cl
    cases k with
    | zero => cases h3
    | succ k => rw [this, ok_some, hp, ok_some, hd]
  refine ok_eq (ok_run (d := ⟨2, 0, 2, b44⟩) rfl rfl ?_)
  simp only [b44, okE_mtv, fl7, clsW_i, h21, ha.fr, ha.fz, tell_ok ha, hf, Bool.or_true, okS_cons, okS_nil, okS_ret, okS_asg, okS_iff, okS_expr, okS_aug, asg_var, asg_tup, asg_cons, asg_nil, okE_cal, okE_var, okE_pv, okE_bi, okE_un, okE_ds, okE_not, okE_or, okE_and, okP_bi, okP_un, okP_peek, okP_cst, okP_or, okP_and, okP_not, okL_cons, okL_nil, get_z, get_s, ok_some, W.isF, isFs, Bool.and_true, Bool.true_and, Bool.not_false, W.frz, frzs, true_implies, reduceCtorEq, false_implies, and_true, true_and, List.map, List.replicate, List.cons_append, List.nil_append, List.set, List.length, thn_ret, thn_next, lent_0, o_add, o_sub, o_mul, o_fdiv, o_mod, o_lt, o_le, o_gt, o_ge, o_eq, o_ne, o_neg, o_max, o_min, o_int, o_id0, o_id1, o_lenl, o_lent, o_bitl, two_dec, two_eq, opD_tup, oE_add, oE_sub, oE_mul, oE_eq, oE_ne, oE_gt, oE_max, oE_len, oE_id0]
  rw [Int.mul_comm]
end
end Lk48
end
section
set_option maxRecDepth 100000
namespace Nb
section
variable {Q : W → Prop} {ws : List W} {i : Int} {b : Bool}
theorem is_i0 : Ok (opF (.isi 0) [.int i]) Q ↔ Q (.bl false) := ok_some
theorem is_i1 : Ok (opF (.isi 1) [.int i]) Q ↔ Q (.bl true) := ok_some
theorem is_i3 : Ok (opF (.isi 3) [.int i]) Q ↔ Q (.bl false) := ok_some
theorem is_i4 : Ok (opF (.isi 4) [.int i]) Q ↔ Q (.bl false) := ok_some
theorem is_t0 : Ok (opF (.isi 0) [.tup ws]) Q ↔ Q (.bl false) := ok_some
theorem is_t1 : Ok (opF (.isi 1) [.tup ws]) Q ↔ Q (.bl false) := ok_some
theorem is_t2 : Ok (opF (.isi 2) [.tup ws]) Q ↔ Q (.bl false) := ok_some
theorem is_t3 : Ok (opF (.isi 3) [.tup ws]) Q ↔ Q (.bl true) := ok_some
theorem is_l0 : Ok (opF (.isi 0) [.lst b ws]) Q ↔ Q (.bl false) := ok_some
theorem is_l1 : Ok (opF (.isi 1) [.lst b ws]) Q ↔ Q (.bl false) := ok_some
theorem is_l2 : Ok (opF (.isi 2) [.lst b ws]) Q ↔ Q (.bl false) := ok_some
theorem is_l3 : Ok (opF (.isi 3) [.lst b ws]) Q ↔ Q (.bl false) := ok_some
theorem is_l4 : Ok (opF (.isi 4) [.lst b ws]) Q ↔ Q (.bl true) := ok_some
end
/-- a pool -/
def pool (xs : List Int) (at_ : Int) : W := .lst true [il false xs, il true [at_]]
theorem mut_seti {T : Tab} {i : Int} {x : W} {ws : List W} {Q : W → Prop} (h : 0 ≤ i) (h1 : i < ws.length) : Ok (mutF T.fld .seti [.int i, x] (.lst true ws)) Q ↔ Q (.lst true (ws.set i.toNat x)) := by
  rw [mutF]
  have h2 : ixP ws.length i = some i.toNat := by
    unfold ixP
    rw [if_pos h, if_pos h1]
  rw [h2]
  exact ok_some
theorem pa_ix {env : Env} {p : P} {Q : List Ac → Prop} : Ok (evPa env (.ix .root p)) Q ↔ Ok (evP env p) fun w => Q [.ix w] := by
  rw [evPa, evPa]
  cases evP env p with
  | none => exact ok_n
  | some w =>
    show Ok (some [Ac.ix w]) Q ↔ _
    rw [ok_some, ok_some]
theorem pool_isF {xs : List Int} {i : Int} : (pool xs i).isF = false := rfl
theorem pool_0 {xs : List Int} {i : Int} {Q : W → Prop} : Ok (opF .idx [pool xs i, .int 0]) Q ↔ Q (il false xs) := ok_some
theorem pool_1 {xs : List Int} {i : Int} {Q : W → Prop} : Ok (opF .idx [pool xs i, .int 1]) Q ↔ Q (il true [i]) := ok_some
theorem one_0 {b : Bool} {i : Int} {Q : W → Prop} : Ok (opF .idx [il b [i], .int 0]) Q ↔ Q (.int i) := ok_some
theorem pool_set {T : Tab} {xs : List Int} {i j : Int} {Q : W → Prop} : Ok (updP (mutF T.fld .seti [.int 0, .int j]) [.ix (.int 1)] (pool xs i)) Q ↔ Q (pool xs j) := ok_some
end Nb
namespace Lk48
open Nb
section
variable {d g m x y e i j : Int} {k : Nat} {s a b v w : W} {bb : Bool} {xs : List Int}
theorem law_draw (h0 : 0 < m) (h1 : 0 ≤ i) (h2 : i ≤ 1000000) (h3 : 0 < xs.length) (h4 : xs.length ≤ 1000) : Ok (rn (k + 1) 50 [pool xs i, .int m]) fun r => ∃ v, r = (.int v, [pool xs (i + 1)]) ∧ 0 ≤ v ∧ v < m := by
  refine ok_run (d := ⟨2, 1, 4, b50⟩) rfl rfl ?_
  have hq0 : 0 ≤ i / (xs.length : Int) := Int.ediv_nonneg h1 (by omega)
  have hq1 : i / (xs.length : Int) ≤ i := Int.ediv_le_self _ h1
  have hm0 : 0 ≤ i % (xs.length : Int) := Int.emod_nonneg _ (by omega)
  have hm1 : i % (xs.length : Int) < (xs.length : Int) := Int.emod_lt_of_pos _ (by omega)
  simp only [b50, pool_0, pool_1, one_0, okS_seti, pa_ix, ok_mut1, pool_set, o_ixl hm0 hm1, List.length_map, fit_s (i := i) (by omega) (by omega), fit_s (i := i / (xs.length : Int)) (by omega) (by omega), fit_s (i := 7) (by omega) (by omega), Bool.true_or, Bool.or_true, okS_cons, okS_nil, okS_ret, okS_asg, okS_iff, okS_expr, okS_aug, asg_var, asg_tup, asg_cons, asg_nil, okE_cal, okE_var, okE_pv, okE_bi, okE_un, okE_ds, okE_not, okE_or, okE_and, okP_bi, okP_un, okP_peek, okP_cst, okP_or, okP_and, okP_not, okL_cons, okL_nil, get_z, get_s, ok_some, W.isF, isFs, Bool.and_true, Bool.true_and, Bool.not_false, W.frz, frzs, true_implies, reduceCtorEq, false_implies, and_true, true_and, List.map, List.replicate, List.cons_append, List.nil_append, List.set, List.length, thn_ret, thn_next, lent_0, o_add, o_sub, o_mul, o_fdiv, o_mod, o_lt, o_le, o_gt, o_ge, o_eq, o_ne, o_neg, o_max, o_min, o_int, o_id0, o_id1, o_lenl, o_lent, o_bitl, two_dec, two_eq, opD_tup, oE_add, oE_sub, oE_mul, oE_eq, oE_ne, oE_gt, oE_max, oE_len, oE_id0]
  refine ⟨by omega, by omega, ⟨by omega, by omega⟩, by omega, h0, ?_⟩
  show Ok (some [pool xs (i + 1)]) _
  rw [ok_some]
  exact ⟨_, rfl, Int.emod_nonneg _ (by omega), Int.emod_lt_of_pos _ h0⟩
theorem kind_i : rn (k + 1) 51 [.int i] = some (.int 2, []) := by
  refine ok_eq (ok_run (d := ⟨1, 0, 1, b51⟩) rfl rfl ?_)
  simp only [b51, is_i0, is_i1, two_bl, okS_cons, okS_nil, okS_ret, okS_asg, okS_iff, okS_expr, okS_aug, asg_var, asg_tup, asg_cons, asg_nil, okE_cal, okE_var, okE_pv, okE_bi, okE_un, okE_ds, okE_not, okE_or, okE_and, okP_bi, okP_un, okP_peek, okP_cst, okP_or, okP_and, okP_not, okL_cons, okL_nil, get_z, get_s, ok_some, W.isF, isFs, Bool.and_true, Bool.true_and, Bool.not_false, W.frz, frzs, true_implies, reduceCtorEq, false_implies, and_true, true_and, List.map, List.replicate, List.cons_append, List.nil_append, List.set, List.length, thn_ret, thn_next, lent_0, o_add, o_sub, o_mul, o_fdiv, o_mod, o_lt, o_le, o_gt, o_ge, o_eq, o_ne, o_neg, o_max, o_min, o_int, o_id0, o_id1, o_lenl, o_lent, o_bitl, two_dec, two_eq, opD_tup, oE_add, oE_sub, oE_mul, oE_eq, oE_ne, oE_gt, oE_max, oE_len, oE_id0]
theorem kind_t {ws : List W} (h : isFs ws = true) : rn (k + 1) 51 [.tup ws] = some (.int 4, []) := by
  refine ok_eq (ok_run (d := ⟨1, 0, 1, b51⟩) rfl rfl ?_)
  simp only [b51, is_t0, is_t1, is_t2, is_t3, two_bl, h, okS_cons, okS_nil, okS_ret, okS_asg, okS_iff, okS_expr, okS_aug, asg_var, asg_tup, asg_cons, asg_nil, okE_cal, okE_var, okE_pv, okE_bi, okE_un, okE_ds, okE_not, okE_or, okE_and, okP_bi, okP_un, okP_peek, okP_cst, okP_or, okP_and, okP_not, okL_cons, okL_nil, get_z, get_s, ok_some, W.isF, isFs, Bool.and_true, Bool.true_and, Bool.not_false, W.frz, frzs, true_implies, reduceCtorEq, false_implies, and_true, true_and, List.map, List.replicate, List.cons_append, List.nil_append, List.set, List.length, thn_ret, thn_next, lent_0, o_add, o_sub, o_mul, o_fdiv, o_mod, o_lt, o_le, o_gt, o_ge, o_eq, o_ne, o_neg, o_max, o_min, o_int, o_id0, o_id1, o_lenl, o_lent, o_bitl, two_dec, two_eq, opD_tup, oE_add, oE_sub, oE_mul, oE_eq, oE_ne, oE_gt, oE_max, oE_len, oE_id0]
theorem eq_i : rn (k + 2) 52 [.int i, .int j] = some (.bl (i == j), []) := by
  refine ok_eq (ok_run (d := ⟨2, 0, 3, b52⟩) rfl rfl ?_)
  simp only [b52, is_i3, is_i4, two_bl, kind_i, okS_cons, okS_nil, okS_ret, okS_asg, okS_iff, okS_expr, okS_aug, asg_var, asg_tup, asg_cons, asg_nil, okE_cal, okE_var, okE_pv, okE_bi, okE_un, okE_ds, okE_not, okE_or, okE_and, okP_bi, okP_un, okP_peek, okP_cst, okP_or, okP_and, okP_not, okL_cons, okL_nil, get_z, get_s, ok_some, W.isF, isFs, Bool.and_true, Bool.true_and, Bool.not_false, W.frz, frzs, true_implies, reduceCtorEq, false_implies, and_true, true_and, List.map, List.replicate, List.cons_append, List.nil_append, List.set, List.length, thn_ret, thn_next, lent_0, o_add, o_sub, o_mul, o_fdiv, o_mod, o_lt, o_le, o_gt, o_ge, o_eq, o_ne, o_neg, o_max, o_min, o_int, o_id0, o_id1, o_lenl, o_lent, o_bitl, two_dec, two_eq, opD_tup, oE_add, oE_sub, oE_mul, oE_eq, oE_ne, oE_gt, oE_max, oE_len, oE_id0]
  simp
theorem eq_t : rn (k + 3) 52 [.tup [.int i, .int j], .tup [.int i, .int j]] = some (.bl true, []) := by
  refine ok_eq (ok_run (d := ⟨2, 0, 3, b52⟩) rfl rfl ?_)
  have hr : (List.range (((0 + 1 + 1 : Nat) : Int)).toNat).map (fun (i : Nat) => W.int (0 + (i : Int))) = [.int 0, .int 1] := rfl
  simp only [b52, is_t3, two_bl, kind_t (ws := [.int i, .int j]) rfl, okS_for, ok_rng1, hr, ok_loop_cons, ok_loop_nil, eq_i, okS_cons, okS_nil, okS_ret, okS_asg, okS_iff, okS_expr, okS_aug, asg_var, asg_tup, asg_cons, asg_nil, okE_cal, okE_var, okE_pv, okE_bi, okE_un, okE_ds, okE_not, okE_or, okE_and, okP_bi, okP_un, okP_peek, okP_cst, okP_or, okP_and, okP_not, okL_cons, okL_nil, get_z, get_s, ok_some, W.isF, isFs, Bool.and_true, Bool.true_and, Bool.not_false, W.frz, frzs, true_implies, reduceCtorEq, false_implies, and_true, true_and, List.map, List.replicate, List.cons_append, List.nil_append, List.set, List.length, thn_ret, thn_next, lent_0, o_add, o_sub, o_mul, o_fdiv, o_mod, o_lt, o_le, o_gt, o_ge, o_eq, o_ne, o_neg, o_max, o_min, o_int, o_id0, o_id1, o_lenl, o_lent, o_bitl, two_dec, two_eq, opD_tup, oE_add, oE_sub, oE_mul, oE_eq, oE_ne, oE_gt, oE_max, oE_len, oE_id0]
  simp
theorem law_cell {ns : List Int} (h : 0 ≤ i) : Ok (rn (k + 1) 47 [.scr ns, .int i]) fun r => ∃ v, r = (.int v, []) := by
  refine ok_run (d := ⟨2, 0, 2, b47⟩) rfl rfl ?_
  have hl : ∀ {Q : W → Prop}, Ok (opF .len [.scr ns]) Q ↔ Q (.int ns.length) := ok_some
  simp only [b47, hl, okS_cons, okS_nil, okS_ret, okS_asg, okS_iff, okS_expr, okS_aug, asg_var, asg_tup, asg_cons, asg_nil, okE_cal, okE_var, okE_pv, okE_bi, okE_un, okE_ds, okE_not, okE_or, okE_and, okP_bi, okP_un, okP_peek, okP_cst, okP_or, okP_and, okP_not, okL_cons, okL_nil, get_z, get_s, ok_some, W.isF, isFs, Bool.and_true, Bool.true_and, Bool.not_false, W.frz, frzs, true_implies, reduceCtorEq, false_implies, and_true, true_and, List.map, List.replicate, List.cons_append, List.nil_append, List.set, List.length, thn_ret, thn_next, lent_0, o_add, o_sub, o_mul, o_fdiv, o_mod, o_lt, o_le, o_gt, o_ge, o_eq, o_ne, o_neg, o_max, o_min, o_int, o_id0, o_id1, o_lenl, o_lent, o_bitl, two_dec, two_eq, opD_tup, oE_add, oE_sub, oE_mul, oE_eq, oE_ne, oE_gt, oE_max, oE_len, oE_id0]
  refine ⟨fun h1 => ?_, fun _ => ⟨_, rfl⟩⟩
  show Ok (match ixP (ns.map W.int).length i with | some k => (ns.map W.int)[k]? | none => none) _
  have h2 : ixP (ns.map W.int).length i = some i.toNat := by
    unfold ixP
    rw [if_pos h, if_pos (by simpa using h1)]
  rw [h2]
  show Ok (ns.map W.int)[i.toNat]? _
  have h3 : (ns.map W.int)[i.toNat]? = some (.int (ns.getD i.toNat 0)) := by
    have : i.toNat < ns.length := by omega
    simp [this]
  rw [h3, ok_some]
  exact ⟨rfl, _, rfl⟩
end
end Lk48
end
section
set_option maxRecDepth 100000
namespace Nb
theorem fit_m {a n : Int} (h : 0 < n) (h1 : n ≤ 4294967296) : fit64 (a % n) = true := by
  have h2 := Int.emod_nonneg a (show n ≠ 0 by omega)
  have h3 := Int.emod_lt_of_pos a h
  unfold fit64
  simp
  omega
theorem o_p18 {Q : W → Prop} : Ok (opF .pow [.int 10, .int 18]) Q ↔ Q (.int 1000000000000000000) := ok_some
theorem oE_cat {a b : Bool} {xs ys : List Int} {Q : W → Prop} : Ok (opE .add [il a xs, il b ys]) Q ↔ xs.length + ys.length ≤ 1000000 ∧ Q (il true (xs ++ ys)) := by
  show Ok (guardO _ (some (W.lst true (frzs (xs.map W.int) ++ frzs (ys.map W.int))))) Q ↔ _
  rw [ok_guard, ok_some, frz_il, frz_il]
  show _ ↔ _ ∧ Q (.lst true ((xs ++ ys).map W.int))
  rw [List.map_append]
  simp
end Nb
namespace Lk48
open Nb
section
variable {d g m x y e i j : Int} {k : Nat} {s a b v w : W} {bb : Bool} {xs : List Int}
theorem law_numbers {cell : Int} : Ok (rn (k + 1) 48 [.int cell, .int 24]) fun r => ∃ xs, r = (il false xs, []) ∧ xs.length = 24 := by
  refine ok_run (d := ⟨2, 0, 6, b48⟩) rfl rfl ?_
  have e0 : opD .lst [] = some (il true []) := rfl
  simp only [b48, okS_for, ok_rng1, e0, okS_cons, okS_nil, okS_ret, okS_asg, okS_iff, okS_expr, okS_aug, asg_var, asg_tup, asg_cons, asg_nil, okE_cal, okE_var, okE_pv, okE_bi, okE_un, okE_ds, okE_not, okE_or, okE_and, okP_bi, okP_un, okP_peek, okP_cst, okP_or, okP_and, okP_not, okL_cons, okL_nil, get_z, get_s, ok_some, W.isF, isFs, Bool.and_true, Bool.true_and, Bool.not_false, W.frz, frzs, true_implies, reduceCtorEq, false_implies, and_true, true_and, List.map, List.replicate, List.cons_append, List.nil_append, List.set, List.length, thn_ret, thn_next, lent_0, o_add, o_sub, o_mul, o_fdiv, o_mod, o_lt, o_le, o_gt, o_ge, o_eq, o_ne, o_neg, o_max, o_min, o_int, o_id0, o_id1, o_lenl, o_lent, o_bitl, two_dec, two_eq, opD_tup, oE_add, oE_sub, oE_mul, oE_eq, oE_ne, oE_gt, oE_max, oE_len, oE_id0]
  refine ⟨by omega, by omega, by omega, ?_⟩
  refine ok_for (I := fun ws env => ∃ (xs : List Int) (left : Int) (l4 l5 : Option W), env = [some (.int cell), some (.int 24), some (il true xs), some (.int left), l4, l5] ∧ xs.length + ws.length = 24 ∧ ∀ w ∈ ws, ∃ i : Int, w = .int i) ?_ ?_ _ _ ⟨[], cell, none, none, rfl, by decide, fun w hw => by
    obtain ⟨i, _, rfl⟩ := List.mem_map.mp hw
    exact ⟨_, rfl⟩⟩
  · rintro env ⟨xs, left, l4, l5, rfl, h, _⟩
    simp only [okS_cons, okS_nil, okS_ret, okS_asg, okS_iff, okS_expr, okS_aug, asg_var, asg_tup, asg_cons, asg_nil, okE_cal, okE_var, okE_pv, okE_bi, okE_un, okE_ds, okE_not, okE_or, okE_and, okP_bi, okP_un, okP_peek, okP_cst, okP_or, okP_and, okP_not, okL_cons, okL_nil, get_z, get_s, ok_some, W.isF, isFs, Bool.and_true, Bool.true_and, Bool.not_false, W.frz, frzs, true_implies, reduceCtorEq, false_implies, and_true, true_and, List.map, List.replicate, List.cons_append, List.nil_append, List.set, List.length, thn_ret, thn_next, lent_0, o_add, o_sub, o_mul, o_fdiv, o_mod, o_lt, o_le, o_gt, o_ge, o_eq, o_ne, o_neg, o_max, o_min, o_int, o_id0, o_id1, o_lenl, o_lent, o_bitl, two_dec, two_eq, opD_tup, oE_add, oE_sub, oE_mul, oE_eq, oE_ne, oE_gt, oE_max, oE_len, oE_id0]
    refine ⟨fun z => (by cases z), fun _ => ⟨xs, ?_, by simpa using h⟩⟩
    rw [frz_il]
  · rintro z ws env ⟨xs, left, l4, l5, rfl, h, hw⟩
    obtain ⟨i, rfl⟩ := hw _ List.mem_cons_self
    have hw2 : ∀ w ∈ ws, ∃ i : Int, w = .int i := fun w hm => hw w (List.mem_cons_of_mem _ hm)
    simp only [List.length_cons] at h
    simp only [o_p18, two_bl, okS_mut, pa_root, sub_root, isLst, ok_mut1, upd_root, mut_app, fit_m (n := 2147483647) (by omega) (by omega), fit_m (n := 2147483629) (by omega) (by omega), fit_s (i := 69621) (by omega) (by omega), fit_s (i := 48271) (by omega) (by omega), fit_s (i := 16807) (by omega) (by omega), fit_s (i := 7919) (by omega) (by omega), fit_s (i := 17) (by omega) (by omega), Bool.true_or, Bool.or_true, List.length_map, okS_cons, okS_nil, okS_ret, okS_asg, okS_iff, okS_expr, okS_aug, asg_var, asg_tup, asg_cons, asg_nil, okE_cal, okE_var, okE_pv, okE_bi, okE_un, okE_ds, okE_not, okE_or, okE_and, okP_bi, okP_un, okP_peek, okP_cst, okP_or, okP_and, okP_not, okL_cons, okL_nil, get_z, get_s, ok_some, W.isF, isFs, Bool.and_true, Bool.true_and, Bool.not_false, W.frz, frzs, true_implies, reduceCtorEq, false_implies, and_true, true_and, List.map, List.replicate, List.cons_append, List.nil_append, List.set, List.length, thn_ret, thn_next, lent_0, o_add, o_sub, o_mul, o_fdiv, o_mod, o_lt, o_le, o_gt, o_ge, o_eq, o_ne, o_neg, o_max, o_min, o_int, o_id0, o_id1, o_lenl, o_lent, o_bitl, two_dec, two_eq, opD_tup, oE_add, oE_sub, oE_mul, oE_eq, oE_ne, oE_gt, oE_max, oE_len, oE_id0]
    have hc : ∀ v : Int, xs.map W.int ++ [W.int v] = (xs ++ [v]).map W.int := fun v => by simp
    simp only [hc]
    have fin : ∀ (v left : Int) (l4 l5 : Option W), ∃ (xs_1 : List Int) (left_1 : Int) (l4_1 l5_1 : Option W), [some (W.int cell), some (W.int 24), some (il true (xs ++ [v])), some (W.int left), l4, l5] = [some (W.int cell), some (W.int 24), some (il true xs_1), some (W.int left_1), l4_1, l5_1] ∧ xs_1.length + ws.length = 24 ∧ ∀ w ∈ ws, ∃ i : Int, w = .int i := fun v left l4 l5 => ⟨_, _, _, _, rfl, by simp only [List.length_append, List.length_cons, List.length_nil]; omega, hw2⟩
    refine ⟨by omega, fun _ => ⟨fun _ => ⟨by omega, by omega, by omega, by omega, fin _ _ _ _⟩, fun _ => ⟨by omega, by omega, by omega, by omega, by omega, by omega, by omega, by omega, by omega, fin _ _ _ _⟩⟩, fun _ => ⟨by omega, by omega, by omega, by omega, by omega, by omega, by omega, by omega, by omega, fin _ _ _ _⟩⟩
theorem law_pool {ns : List Int} : Ok (rn (k + 2) 49 [.scr ns]) fun r => ∃ xs, r = (pool xs 0, []) ∧ 0 < xs.length ∧ xs.length ≤ 1000 := by
  refine ok_run (d := ⟨1, 0, 3, b49⟩) rfl rfl ?_
  have e0 : opD .lst [] = some (il true []) := rfl
  have hl : ∀ {Q : W → Prop}, Ok (opF .len [.scr ns]) Q ↔ Q (.int ns.length) := ok_some
  simp only [b49, okS_for, ok_rng1, e0, hl, okS_cons, okS_nil, okS_ret, okS_asg, okS_iff, okS_expr, okS_aug, asg_var, asg_tup, asg_cons, asg_nil, okE_cal, okE_var, okE_pv, okE_bi, okE_un, okE_ds, okE_not, okE_or, okE_and, okP_bi, okP_un, okP_peek, okP_cst, okP_or, okP_and, okP_not, okL_cons, okL_nil, get_z, get_s, ok_some, W.isF, isFs, Bool.and_true, Bool.true_and, Bool.not_false, W.frz, frzs, true_implies, reduceCtorEq, false_implies, and_true, true_and, List.map, List.replicate, List.cons_append, List.nil_append, List.set, List.length, thn_ret, thn_next, lent_0, o_add, o_sub, o_mul, o_fdiv, o_mod, o_lt, o_le, o_gt, o_ge, o_eq, o_ne, o_neg, o_max, o_min, o_int, o_id0, o_id1, o_lenl, o_lent, o_bitl, two_dec, two_eq, opD_tup, oE_add, oE_sub, oE_mul, oE_eq, oE_ne, oE_gt, oE_max, oE_len, oE_id0]
  refine ⟨by omega, by omega, ?_⟩
  refine ok_for (I := fun ws env => ∃ (xs : List Int) (l2 : Option W) (j : Nat), env = [some (.scr ns), some (il true xs), l2] ∧ xs.length = 24 * j ∧ j + ws.length ≤ 6 ∧ 1 ≤ j + ws.length ∧ ∀ w ∈ ws, ∃ i : Int, w = .int i ∧ 0 ≤ i) ?_ ?_ _ _ ⟨[], none, 0, rfl, rfl, by simp only [List.length_map, List.length_range]; omega, by simp only [List.length_map, List.length_range]; omega, fun w hw => by
    obtain ⟨i, _, rfl⟩ := List.mem_map.mp hw
    exact ⟨_, rfl, by omega⟩⟩
  · rintro env ⟨xs, l2, j, rfl, h, h1, h2, _⟩
    simp only [List.length_nil] at h1 h2
    have hp : opD .lst [.lst false (frzs (xs.map W.int)), il true [0]] = some (pool xs 0) := by
      rw [frz_il]
      rfl
    have e1 : opD .lst [.int 0] = some (il true [0]) := rfl
    simp only [e1, okS_cons, okS_nil, okS_ret, okS_asg, okS_iff, okS_expr, okS_aug, asg_var, asg_tup, asg_cons, asg_nil, okE_cal, okE_var, okE_pv, okE_bi, okE_un, okE_ds, okE_not, okE_or, okE_and, okP_bi, okP_un, okP_peek, okP_cst, okP_or, okP_and, okP_not, okL_cons, okL_nil, get_z, get_s, ok_some, W.isF, isFs, Bool.and_true, Bool.true_and, Bool.not_false, W.frz, frzs, true_implies, reduceCtorEq, false_implies, and_true, true_and, List.map, List.replicate, List.cons_append, List.nil_append, List.set, List.length, thn_ret, thn_next, lent_0, o_add, o_sub, o_mul, o_fdiv, o_mod, o_lt, o_le, o_gt, o_ge, o_eq, o_ne, o_neg, o_max, o_min, o_int, o_id0, o_id1, o_lenl, o_lent, o_bitl, two_dec, two_eq, opD_tup, oE_add, oE_sub, oE_mul, oE_eq, oE_ne, oE_gt, oE_max, oE_len, oE_id0]
    refine ⟨fun z => (by cases z), fun _ => ?_⟩
    rw [hp, ok_some]
    exact ⟨xs, rfl, by omega, by omega⟩
  · rintro z ws env ⟨xs, l2, j, rfl, h, h1, h2, hw⟩
    obtain ⟨i, rfl, hi⟩ := hw _ List.mem_cons_self
    have hw2 : ∀ w ∈ ws, ∃ i : Int, w = .int i ∧ 0 ≤ i := fun w hm => hw w (List.mem_cons_of_mem _ hm)
    simp only [List.length_cons] at h1 h2
    simp only [fit_s (i := 11) (by omega) (by omega), Bool.true_or, okS_cons, okS_nil, okS_ret, okS_asg, okS_iff, okS_expr, okS_aug, asg_var, asg_tup, asg_cons, asg_nil, okE_cal, okE_var, okE_pv, okE_bi, okE_un, okE_ds, okE_not, okE_or, okE_and, okP_bi, okP_un, okP_peek, okP_cst, okP_or, okP_and, okP_not, okL_cons, okL_nil, get_z, get_s, ok_some, W.isF, isFs, Bool.and_true, Bool.true_and, Bool.not_false, W.frz, frzs, true_implies, reduceCtorEq, false_implies, and_true, true_and, List.map, List.replicate, List.cons_append, List.nil_append, List.set, List.length, thn_ret, thn_next, lent_0, o_add, o_sub, o_mul, o_fdiv, o_mod, o_lt, o_le, o_gt, o_ge, o_eq, o_ne, o_neg, o_max, o_min, o_int, o_id0, o_id1, o_lenl, o_lent, o_bitl, two_dec, two_eq, opD_tup, oE_add, oE_sub, oE_mul, oE_eq, oE_ne, oE_gt, oE_max, oE_len, oE_id0]
    refine ⟨by omega, fun z => (by cases z), fun _ => ?_⟩
    refine (law_cell (k := k) hi).mono fun r ⟨v, e⟩ => ?_
    subst e
    simp only [okS_cons, okS_nil, okS_ret, okS_asg, okS_iff, okS_expr, okS_aug, asg_var, asg_tup, asg_cons, asg_nil, okE_cal, okE_var, okE_pv, okE_bi, okE_un, okE_ds, okE_not, okE_or, okE_and, okP_bi, okP_un, okP_peek, okP_cst, okP_or, okP_and, okP_not, okL_cons, okL_nil, get_z, get_s, ok_some, W.isF, isFs, Bool.and_true, Bool.true_and, Bool.not_false, W.frz, frzs, true_implies, reduceCtorEq, false_implies, and_true, true_and, List.map, List.replicate, List.cons_append, List.nil_append, List.set, List.length, thn_ret, thn_next, lent_0, o_add, o_sub, o_mul, o_fdiv, o_mod, o_lt, o_le, o_gt, o_ge, o_eq, o_ne, o_neg, o_max, o_min, o_int, o_id0, o_id1, o_lenl, o_lent, o_bitl, two_dec, two_eq, opD_tup, oE_add, oE_sub, oE_mul, oE_eq, oE_ne, oE_gt, oE_max, oE_len, oE_id0]
    refine (law_numbers (k := k)).mono fun r ⟨ys, e, hy⟩ => ?_
    subst e
    rw [frz_il]
    simp only [oE_cat, okS_cons, okS_nil, okS_ret, okS_asg, okS_iff, okS_expr, okS_aug, asg_var, asg_tup, asg_cons, asg_nil, okE_cal, okE_var, okE_pv, okE_bi, okE_un, okE_ds, okE_not, okE_or, okE_and, okP_bi, okP_un, okP_peek, okP_cst, okP_or, okP_and, okP_not, okL_cons, okL_nil, get_z, get_s, ok_some, W.isF, isFs, Bool.and_true, Bool.true_and, Bool.not_false, W.frz, frzs, true_implies, reduceCtorEq, false_implies, and_true, true_and, List.map, List.replicate, List.cons_append, List.nil_append, List.set, List.length, thn_ret, thn_next, lent_0, o_add, o_sub, o_mul, o_fdiv, o_mod, o_lt, o_le, o_gt, o_ge, o_eq, o_ne, o_neg, o_max, o_min, o_int, o_id0, o_id1, o_lenl, o_lent, o_bitl, two_dec, two_eq, opD_tup, oE_add, oE_sub, oE_mul, oE_eq, oE_ne, oE_gt, oE_max, oE_len, oE_id0]
    exact ⟨by omega, by omega, xs ++ ys, _, j + 1, rfl, by simp only [List.length_append]; omega, by omega, by omega, hw2⟩
theorem bit_half {n : Nat} (h : 1 < n) : bitLen n = bitLen (n / 2) + 1 := by
  unfold bitLen
  rw [if_neg (by omega), if_neg (by omega), Nat.log2_def n, if_pos (by omega)]
theorem law_binary (h0 : 0 ≤ i) (h1 : i ≤ 1000000) : rn (k + 1) 53 [.int i] = some (.int (max 1 (bitLen i.natAbs)), []) := by
  refine ok_eq (ok_run (d := ⟨1, 0, 3, b53⟩) rfl rfl ?_)
  simp only [b53, okS_for, ok_rng1, okS_cons, okS_nil, okS_ret, okS_asg, okS_iff, okS_expr, okS_aug, asg_var, asg_tup, asg_cons, asg_nil, okE_cal, okE_var, okE_pv, okE_bi, okE_un, okE_ds, okE_not, okE_or, okE_and, okP_bi, okP_un, okP_peek, okP_cst, okP_or, okP_and, okP_not, okL_cons, okL_nil, get_z, get_s, ok_some, W.isF, isFs, Bool.and_true, Bool.true_and, Bool.not_false, W.frz, frzs, true_implies, reduceCtorEq, false_implies, and_true, true_and, List.map, List.replicate, List.cons_append, List.nil_append, List.set, List.length, thn_ret, thn_next, lent_0, o_add, o_sub, o_mul, o_fdiv, o_mod, o_lt, o_le, o_gt, o_ge, o_eq, o_ne, o_neg, o_max, o_min, o_int, o_id0, o_id1, o_lenl, o_lent, o_bitl, two_dec, two_eq, opD_tup, oE_add, oE_sub, oE_mul, oE_eq, oE_ne, oE_gt, oE_max, oE_len, oE_id0]
  refine ⟨by omega, by omega, ?_⟩
  refine ok_for (I := fun ws env => ∃ (n : Nat) (c : Int) (l2 : Option W), env = [some (.int n), some (.int c), l2] ∧ c + max 1 (bitLen n : Int) = 1 + max 1 (bitLen i.natAbs : Int) ∧ (n < 2 ^ ws.length ∨ n ≤ 1)) ?_ ?_ _ _ ⟨i.toNat, 1, none, ?_, ?_, .inl ?_⟩
  · rintro env ⟨n, c, l2, rfl, h, h2⟩
    simp only [okS_cons, okS_nil, okS_ret, okS_asg, okS_iff, okS_expr, okS_aug, asg_var, asg_tup, asg_cons, asg_nil, okE_cal, okE_var, okE_pv, okE_bi, okE_un, okE_ds, okE_not, okE_or, okE_and, okP_bi, okP_un, okP_peek, okP_cst, okP_or, okP_and, okP_not, okL_cons, okL_nil, get_z, get_s, ok_some, W.isF, isFs, Bool.and_true, Bool.true_and, Bool.not_false, W.frz, frzs, true_implies, reduceCtorEq, false_implies, and_true, true_and, List.map, List.replicate, List.cons_append, List.nil_append, List.set, List.length, thn_ret, thn_next, lent_0, o_add, o_sub, o_mul, o_fdiv, o_mod, o_lt, o_le, o_gt, o_ge, o_eq, o_ne, o_neg, o_max, o_min, o_int, o_id0, o_id1, o_lenl, o_lent, o_bitl, two_dec, two_eq, opD_tup, oE_add, oE_sub, oE_mul, oE_eq, oE_ne, oE_gt, oE_max, oE_len, oE_id0]
    have hn : n ≤ 1 := by
      rcases h2 with h2 | h2
      · have : n < 1 := h2
        omega
      · exact h2
    have hb : bitLen n ≤ 1 := bit_le (by omega)
    have : c = max 1 (bitLen i.natAbs : Int) := by omega
    rw [this]
  · rintro z ws env ⟨n, c, l2, rfl, h, h2⟩
    simp only [okS_cons, okS_nil, okS_ret, okS_asg, okS_iff, okS_expr, okS_aug, asg_var, asg_tup, asg_cons, asg_nil, okE_cal, okE_var, okE_pv, okE_bi, okE_un, okE_ds, okE_not, okE_or, okE_and, okP_bi, okP_un, okP_peek, okP_cst, okP_or, okP_and, okP_not, okL_cons, okL_nil, get_z, get_s, ok_some, W.isF, isFs, Bool.and_true, Bool.true_and, Bool.not_false, W.frz, frzs, true_implies, reduceCtorEq, false_implies, and_true, true_and, List.map, List.replicate, List.cons_append, List.nil_append, List.set, List.length, thn_ret, thn_next, lent_0, o_add, o_sub, o_mul, o_fdiv, o_mod, o_lt, o_le, o_gt, o_ge, o_eq, o_ne, o_neg, o_max, o_min, o_int, o_id0, o_id1, o_lenl, o_lent, o_bitl, two_dec, two_eq, opD_tup, oE_add, oE_sub, oE_mul, oE_eq, oE_ne, oE_gt, oE_max, oE_len, oE_id0]
    refine ⟨by omega, fun h3 => ⟨⟨by omega, by omega⟩, by omega, by omega, n / 2, c + 1, some z, ?_, ?_, ?_⟩, fun h3 => ⟨n, c, some z, rfl, h, .inr (by omega)⟩⟩
    · rfl
    · have := bit_half (n := n) (by omega)
      have h4 : bitLen (n / 2) ≠ 0 := by
        have := bit_pos (n := n / 2) (by omega)
        omega
      omega
    · rcases h2 with h2 | h2
      · left
        rw [List.length_cons, Nat.pow_succ] at h2
        omega
      · omega
  · have : ((i.toNat : Nat) : Int) = i := by omega
    rw [this]
  · have : i.toNat = i.natAbs := by omega
    rw [this]
  · have : (2 : Nat) ^ ((List.range (40 : Int).toNat).map fun (i : Nat) => W.int (0 + (i : Int))).length = 1099511627776 := by decide
    rw [this]
    omega
end
end Lk48
end
section
set_option maxRecDepth 100000
namespace Nb
theorem get_n {r : Env} : Nb.get (none :: r) 0 = none := rfl
mutual
theorem frz_frz : ∀ w : W, w.frz.frz = w.frz
  | .non => rfl
  | .bl _ => rfl
  | .int _ => rfl
  | .str _ => rfl
  | .fn _ => rfl
  | .tup ws => congrArg W.tup (frzs_frz ws)
  | .lst _ ws => congrArg (W.lst false) (frzs_frz ws)
  | .dic _ ks vs => by
    rw [W.frz, W.frz, frzs_frz ks, frzs_frz vs]
  | .ins _ c fs ws => congrArg (W.ins false c fs) (frzs_frz ws)
  | .set _ => rfl
  | .rng _ _ => rfl
  | .scr _ => rfl
theorem frzs_frz : ∀ ws : List W, frzs (frzs ws) = frzs ws
  | [] => rfl
  | w :: ws => by
    rw [frzs, frzs, frz_frz w, frzs_frz ws]
end
theorem opD_lst {ws : List W} {Q : W → Prop} : Ok (opD .lst ws) Q ↔ ws.length ≤ 1000 ∧ Q (.lst true ws) := by
  show Ok (guardO _ _) Q ↔ _
  rw [ok_guard, ok_some]
  simp
theorem oE_lcat {a b : Bool} {xs ys : List W} {Q : W → Prop} : Ok (opE .add [.lst a xs, .lst b ys]) Q ↔ (frzs xs).length + (frzs ys).length ≤ 1000000 ∧ Q (.lst true (frzs xs ++ frzs ys)) := by
  show Ok (guardO _ (some (W.lst true (frzs xs ++ frzs ys)))) Q ↔ _
  rw [ok_guard, ok_some]
  simp
section
variable {i j : Int} {a b : W} {ws : List W} {o : Bool} {Q : W → Prop}
theorem e_add : opF .add [.int i, .int j] = some (.int (i + j)) := rfl
theorem e_sub : opF .sub [.int i, .int j] = some (.int (i - j)) := rfl
theorem e_lt : opF .lt [.int i, .int j] = some (.bl (decide (i < j))) := rfl
theorem e_le : opF .le [.int i, .int j] = some (.bl (decide (i ≤ j))) := rfl
theorem e_gt : opF .gt [.int i, .int j] = some (.bl (decide (j < i))) := rfl
theorem e_ge : opF .ge [.int i, .int j] = some (.bl (decide (j ≤ i))) := rfl
theorem e_eq : opF .eq [.int i, .int j] = some (.bl (i == j)) := rfl
theorem e_ne : opF .ne [.int i, .int j] = some (.bl (!(i == j))) := rfl
theorem e_neg : opF .neg [.int i] = some (.int (-i)) := rfl
theorem e_max : opF .max2 [.int i, .int j] = some (.int (max i j)) := eqo o_max
theorem e_min : opF .min2 [.int i, .int j] = some (.int (min i j)) := eqo o_min
theorem e_int : opF .int [.int i] = some (.int i) := rfl
theorem e_bitl : opF .bitl [.int i] = some (.int (bitLen i.natAbs)) := rfl
theorem e_lenl : opF .len [.lst o ws] = some (.int ws.length) := rfl
theorem e_lent : opF .len [.tup ws] = some (.int ws.length) := rfl
theorem e_id0 : opF .idx [.tup [a, b], .int 0] = some a := rfl
theorem e_id1 : opF .idx [.tup [a, b], .int 1] = some b := rfl
theorem eE_add : opE .add [.int i, .int j] = some (.int (i + j)) := rfl
theorem eE_sub : opE .sub [.int i, .int j] = some (.int (i - j)) := rfl
theorem eE_eq : opE .eq [.int i, .int j] = some (.bl (i == j)) := rfl
theorem eE_ne : opE .ne [.int i, .int j] = some (.bl (!(i == j))) := rfl
theorem eE_gt : opE .gt [.int i, .int j] = some (.bl (decide (j < i))) := rfl
theorem eE_max : opE .max2 [.int i, .int j] = some (.int (max i j)) := eqo oE_max
theorem eE_ll : opE .len [.lst o ws] = some (.int (frzs ws).length) := rfl
theorem eE_id0 : opE .idx [.tup [a, b], .int 0] = some a.frz := rfl
theorem e_seq : items .seq [.lst o ws] = some ws := rfl
theorem e_cls {p : Bool} {c : Nat} {fs : List Nat} : clsW (.ins p c fs ws) = some c := rfl
theorem k_mul : @Kk _ (opF .mul [.int i, .int j]) ⟨Q⟩ ↔ (fit64 i || fit64 j) = true ∧ Q (.int (i * j)) := o_mul
theorem k_fdiv : @Kk _ (opF .fdiv [.int i, .int j]) ⟨Q⟩ ↔ (0 < j ∧ j < 1073741824) ∧ Q (.int (i / j)) := o_fdiv
theorem k_mod : @Kk _ (opF .mod [.int i, .int j]) ⟨Q⟩ ↔ 0 < j ∧ Q (.int (i % j)) := o_mod
theorem k_dtup : @Kk _ (opD .tup ws) ⟨Q⟩ ↔ ws.length ≤ 1000 ∧ Q (.tup (frzs ws)) := opD_tup
theorem k_dlst : @Kk _ (opD .lst ws) ⟨Q⟩ ↔ ws.length ≤ 1000 ∧ Q (.lst true ws) := opD_lst
theorem kE_mul : @Kk _ (opE .mul [.int i, .int j]) ⟨Q⟩ ↔ (fit64 i || fit64 j) = true ∧ Q (.int (i * j)) := oE_mul
theorem k_lcat {a b : Bool} {xs ys : List W} : @Kk _ (opE .add [.lst a xs, .lst b ys]) ⟨Q⟩ ↔ (frzs xs).length + (frzs ys).length ≤ 1000000 ∧ Q (.lst true (frzs xs ++ frzs ys)) := oE_lcat
theorem k_rng1 {Q : List W → Prop} : @Kk _ (items .rng1 [.int i]) ⟨Q⟩ ↔ (-1000000 < i ∧ i < 1000000) ∧ Q ((List.range i.toNat).map fun (i : Nat) => W.int (0 + (i : Int))) := ok_rng1
theorem k_rng2 {Q : List W → Prop} : @Kk _ (items .rng2 [.int i, .int j]) ⟨Q⟩ ↔ (-1000000 < i ∧ i < 1000000 ∧ -1000000 < j ∧ j < 1000000) ∧ Q ((List.range (j - i).toNat).map fun (x : Nat) => W.int (i + (x : Int))) := ok_rng2
end
/-- a comprehension whose test always fails -/
theorem comp_none {bind : W → Env → Option Env} {test elt : Env → Option (W × Env)} {own : List Nat} (I : Env → Prop) : ∀ (xs : List W) (env : Env) (acc : List W), (∀ x ∈ xs, ∀ env, I env → Ok (bind x env) fun e1 => Ok (test e1) fun r => r.1 = .bl false ∧ I (wipeE r.2 own)) → I env → Ok (compL bind test elt own xs env acc) fun q => q.1 = acc ∧ I q.2
  | [], env, acc, _, h => by
    rw [compL, ok_some]
    exact ⟨rfl, h⟩
  | x :: xs, env, acc, hs, h => by
    rw [ok_comp]
    refine (hs x List.mem_cons_self env h).mono fun e1 h1 => h1.mono fun r ⟨h2, h3⟩ => ?_
    rw [h2, two_bl]
    exact ⟨fun z => (by cases z), fun _ => comp_none I xs _ acc (fun x hx => hs x (List.mem_cons_of_mem _ hx)) h3⟩
end Nb
namespace Lk48
open Nb
theorem draw_ok {xs : List Int} {k : Nat} {i m : Int} {Q : W × List W → Prop} (hx : 0 < xs.length ∧ xs.length ≤ 1000) (h0 : 0 < m) (h1 : 0 ≤ i) (h2 : i ≤ 1000000) (h : ∀ v : Int, 0 ≤ v → v < m → Q (.int v, [pool xs (i + 1)])) : Ok (rn (k + 1) 50 [pool xs i, .int m]) Q := (law_draw h0 h1 h2 hx.1 hx.2).mono fun r ⟨v, e, h3, h4⟩ => by
  rw [e]
  exact h v h3 h4
def c54_0 : Nb.S := .asg (.var 1) (.cal 49 (.cons (.var 0) .nil))
def c54_1 : Nb.S := .asg (.var 2) (.bi .add (.pv (.cst (.int 1))) (.cab 50 1 (.cons (.pv (.cst (.int 6))) .nil)))
def c54_2 : Nb.S := .asg (.var 3) (.ds .tup (.cons (.var 2) (.cons (.bi .add (.pv (.cst (.int 1))) (.cab 50 1 (.cons (.bi .idx (.ds .lst (.cons (.pv (.cst (.int 40))) (.cons (.pv (.cst (.int 4000))) .nil))) (.cab 50 1 (.cons (.pv (.cst (.int 2))) .nil))) .nil))) .nil)))
def c54_3 : Nb.S := .asg (.var 4) (.cal 6 (.cons (.var 3) .nil))
def c54_4 : Nb.S := .asg (.var 5) (.pv (.bi .add (.bi .sub (.un .len (.peek 4)) (.cst (.int 1))) (.bi .max2 (.cst (.int 0)) (.bi .sub (.bi .sub (.bi .idx (.peek 4) (.un .neg (.cst (.int 1)))) (.peek 2)) (.cst (.int 1))))))
def c54_5 : Nb.S := .iff (.or_ (.pv (.bi .ne (.bi .idx (.peek 4) (.cst (.int 0))) (.bi .idx (.peek 3) (.cst (.int 1))))) (.bi .gt (.un .len (.lcp .rng2 [6] (.var 6) (.cons (.pv (.cst (.int 1))) (.cons (.pv (.un .len (.peek 4))) .nil)) (.pv (.bi .ge (.bi .idx (.peek 4) (.peek 6)) (.bi .idx (.peek 4) (.bi .sub (.peek 6) (.cst (.int 1)))))) (.var 6))) (.pv (.cst (.int 0))))) (.cons (.ret (.pv (.cst (.bl false)))) .nil) (.nil)
def c54_6 : Nb.S := .for_ .rng1 (.var 6) (.cons (.pv (.un .len (.peek 4))) .nil) (.cons (.asg (.var 7) (.bi .idx (.cal 5 (.cons (.var 2) (.cons (.pv (.bi .idx (.peek 4) (.peek 6))) .nil))) (.pv (.cst (.int 0))))) (.cons (.iff (.pv (.and_ (.bi .lt (.bi .add (.peek 6) (.cst (.int 1))) (.un .len (.peek 4))) (.bi .ne (.bi .idx (.peek 4) (.bi .add (.peek 6) (.cst (.int 1)))) (.bi .mul (.peek 7) (.peek 7))))) (.cons (.ret (.pv (.cst (.bl false)))) .nil) (.nil)) (.cons (.iff (.pv (.and_ (.bi .eq (.bi .add (.peek 6) (.cst (.int 1))) (.un .len (.peek 4))) (.bi .lt (.bi .mul (.peek 7) (.peek 7)) (.bi .idx (.peek 4) (.peek 6))))) (.cons (.ret (.pv (.cst (.bl false)))) .nil) (.nil)) .nil)))
def c54_7 : Nb.S := .asg (.var 8) (.ds .lst (.cons (.ds .tup (.cons (.mak 1 (.nil)) (.cons (.pv (.bi .sub (.un .len (.peek 4)) (.cst (.int 1)))) .nil))) (.cons (.ds .tup (.cons (.mak 3 (.nil)) (.cons (.var 5) .nil))) (.cons (.ds .tup (.cons (.mak 6 (.nil)) (.cons (.pv (.bi .add (.bi .add (.peek 5) (.peek 2)) (.cst (.int 1)))) .nil))) (.cons (.ds .tup (.cons (.mak 14 (.nil)) (.cons (.pv (.bi .add (.bi .add (.peek 5) (.peek 2)) (.cst (.int 1)))) .nil))) (.cons (.ds .tup (.cons (.mak 18 (.nil)) (.cons (.pv (.bi .add (.peek 5) (.bi .mul (.bi .mul (.cst (.int 2)) (.peek 2)) (.bi .add (.peek 2) (.cst (.int 1)))))) .nil))) .nil))))))
def c54_8 : Nb.S := .asg (.var 9) (.cal 53 (.cons (.pv (.bi .sub (.bi .idx (.peek 3) (.cst (.int 1))) (.cst (.int 1)))) .nil))
def c54_9 : Nb.S := .asg (.var 10) (.cab 50 1 (.cons (.pv (.cst (.int 30))) .nil))
def c54_10 : Nb.S := .asg (.var 8) (.bi .add (.var 8) (.ds .lst (.cons (.ds .tup (.cons (.mak 19 (.nil)) (.cons (.pv (.bi .mul (.cst (.int 2)) (.peek 2))) .nil))) (.cons (.ds .tup (.cons (.mak 9 (.nil)) (.cons (.var 9) .nil))) (.cons (.ds .tup (.cons (.mak 11 (.nil)) (.cons (.pv (.bi .mul (.cst (.int 2)) (.peek 9))) .nil))) (.cons (.ds .tup (.cons (.mak 12 (.nil)) (.cons (.pv (.bi .mul (.cst (.int 4)) (.peek 9))) .nil))) (.cons (.ds .tup (.cons (.mak 2 (.cons (.var 10) .nil)) (.cons (.pv (.bi .max2 (.cst (.int 0)) (.bi .sub (.bi .sub (.peek 10) (.peek 2)) (.cst (.int 1))))) .nil))) .nil)))))))
def c54_11 : Nb.S := .for_ .seq (.tup (.cons (.var 11) (.cons (.var 12) .nil))) (.cons (.var 8) .nil) (.cons (.iff (.not_ (.cal 52 (.cons (.mtv 11 (.var 11) (.cons (.var 3) .nil)) (.cons (.var 12) .nil)))) (.cons (.ret (.pv (.cst (.bl false)))) .nil) (.nil)) .nil)
def c54_12 : Nb.S := .iff (.or_ (.bi .ne (.mtv 11 (.mak 4 (.cons (.mak 3 (.nil)) (.cons (.mak 5 (.nil)) .nil))) (.cons (.var 3) .nil)) (.mtv 11 (.mak 6 (.nil)) (.cons (.var 3) .nil))) (.bi .ne (.mtv 11 (.mak 4 (.cons (.mak 3 (.nil)) (.cons (.mak 13 (.nil)) .nil))) (.cons (.var 3) .nil)) (.mtv 11 (.mak 14 (.nil)) (.cons (.var 3) .nil)))) (.cons (.ret (.pv (.cst (.bl false)))) .nil) (.nil)
def c54_13 : Nb.S := .asg (.var 13) (.bi .add (.pv (.cst (.int 1))) (.cab 50 1 (.cons (.pv (.cst (.int 3))) .nil)))
def c54_14 : Nb.S := .asg (.var 14) (.cal 18 (.cons (.var 3) (.cons (.var 13) .nil)))
def c54_15 : Nb.S := .asg (.var 15) (.pv (.cst (.int 0)))
def c54_16 : Nb.S := .asg (.var 16) (.var 2)
def c54_17 : Nb.S := .for_ .rng1 (.var 6) (.cons (.var 13) .nil) (.cons (.asg (.var 15) (.pv (.bi .add (.peek 15) (.peek 16)))) (.cons (.asg (.var 16) (.pv (.bi .mul (.peek 16) (.bi .sub (.peek 2) (.cst (.int 1)))))) .nil))
def c54_18 : Nb.S := .iff (.or_ (.not_ (.cal 52 (.cons (.var 14) (.cons (.ds .tup (.cons (.var 15) (.cons (.pv (.bi .idx (.peek 3) (.cst (.int 1)))) .nil))) .nil)))) (.not_ (.cal 52 (.cons (.mtv 11 (.mak 8 (.cons (.var 13) .nil)) (.cons (.var 3) .nil)) (.cons (.bi .mul (.var 13) (.bi .add (.pv (.cst (.int 1))) (.mtv 11 (.mak 3 (.nil)) (.cons (.var 14) .nil)))) .nil))))) (.cons (.ret (.pv (.cst (.bl false)))) .nil) (.nil)
def c54_19 : Nb.S := .asg (.var 17) (.cab 50 1 (.cons (.pv (.cst (.int 5))) .nil))
def c54_20 : Nb.S := .iff (.not_ (.cal 52 (.cons (.mtv 11 (.mak 7 (.cons (.mak 21 (.cons (.var 17) .nil)) (.cons (.var 13) .nil))) (.cons (.var 3) .nil)) (.cons (.pv (.bi .mul (.peek 13) (.bi .add (.cst (.int 1)) (.peek 17)))) .nil)))) (.cons (.ret (.pv (.cst (.bl false)))) .nil) (.nil)
def c54_21 : Nb.S := .asg (.var 18) (.cal 33 (.cons (.var 3) .nil))
def c54_22 : Nb.S := .iff (.or_ (.not_ (.cal 52 (.cons (.var 18) (.cons (.ds .tup (.cons (.pv (.bi .max2 (.cst (.int 1)) (.bi .sub (.bi .mul (.cst (.int 2)) (.peek 2)) (.cst (.int 2))))) (.cons (.pv (.bi .mul (.bi .idx (.peek 3) (.cst (.int 1))) (.bi .idx (.peek 3) (.cst (.int 1))))) .nil))) .nil)))) (.not_ (.cal 52 (.cons (.mtv 11 (.mak 16 (.nil)) (.cons (.var 3) .nil)) (.cons (.bi .add (.pv (.cst (.int 3))) (.bi .mul (.pv (.cst (.int 2))) (.mtv 11 (.mak 3 (.nil)) (.cons (.var 18) .nil)))) .nil))))) (.cons (.ret (.pv (.cst (.bl false)))) .nil) (.nil)
def c54_23 : Nb.S := .iff (.not_ (.cal 52 (.cons (.mtv 11 (.mak 15 (.cons (.mak 19 (.nil)) .nil)) (.cons (.var 3) .nil)) (.cons (.pv (.bi .add (.cst (.int 3)) (.bi .mul (.cst (.int 4)) (.bi .idx (.peek 18) (.cst (.int 0)))))) .nil)))) (.cons (.ret (.pv (.cst (.bl false)))) .nil) (.nil)
def c54_24 : Nb.S := .asg (.var 19) (.bi .add (.pv (.cst (.int 1))) (.cab 50 1 (.cons (.pv (.cst (.int 9))) .nil)))
def c54_25 : Nb.S := .asg (.var 20) (.bi .add (.pv (.cst (.int 1))) (.cab 50 1 (.cons (.pv (.cst (.int 40))) .nil)))
def c54_26 : Nb.S := .asg (.var 21) (.mak 20 (.cons (.mak 7 (.cons (.mak 21 (.cons (.var 17) .nil)) (.cons (.var 13) .nil))) (.cons (.var 19) (.cons (.var 20) .nil))))
def c54_27 : Nb.S := .ret (.cal 52 (.cons (.mtv 11 (.var 21) (.cons (.var 3) .nil)) (.cons (.pv (.bi .mul (.bi .mul (.peek 13) (.bi .add (.cst (.int 1)) (.peek 17))) (.bi .fdiv (.bi .sub (.bi .add (.peek 20) (.peek 19)) (.cst (.int 1))) (.peek 19)))) .nil)))
def t54_28 : Nb.S := .nil
def t54_27 : Nb.S := .cons c54_27 t54_28
def t54_26 : Nb.S := .cons c54_26 t54_27
def t54_25 : Nb.S := .cons c54_25 t54_26
def t54_24 : Nb.S := .cons c54_24 t54_25
def t54_23 : Nb.S := .cons c54_23 t54_24
def t54_22 : Nb.S := .cons c54_22 t54_23
def t54_21 : Nb.S := .cons c54_21 t54_22
def t54_20 : Nb.S := .cons c54_20 t54_21
def t54_19 : Nb.S := .cons c54_19 t54_20
def t54_18 : Nb.S := .cons c54_18 t54_19
def t54_17 : Nb.S := .cons c54_17 t54_18
def t54_16 : Nb.S := .cons c54_16 t54_17
def t54_15 : Nb.S := .cons c54_15 t54_16
def t54_14 : Nb.S := .cons c54_14 t54_15
def t54_13 : Nb.S := .cons c54_13 t54_14
def t54_12 : Nb.S := .cons c54_12 t54_13
def t54_11 : Nb.S := .cons c54_11 t54_12
def t54_10 : Nb.S := .cons c54_10 t54_11
def t54_9 : Nb.S := .cons c54_9 t54_10
def t54_8 : Nb.S := .cons c54_8 t54_9
def t54_7 : Nb.S := .cons c54_7 t54_8
def t54_6 : Nb.S := .cons c54_6 t54_7
def t54_5 : Nb.S := .cons c54_5 t54_6
def t54_4 : Nb.S := .cons c54_4 t54_5
def t54_3 : Nb.S := .cons c54_3 t54_4
def t54_2 : Nb.S := .cons c54_2 t54_3
def t54_1 : Nb.S := .cons c54_1 t54_2
def t54_0 : Nb.S := .cons c54_0 t54_1
theorem cut54 : b54 = t54_0 := rfl
def QL (r : Fl × Env) : Prop := ∃ env, r = (.ret (.bl true), env)
theorem ql_ret {env : Env} : QL (.ret (.bl true), env) ↔ True := ⟨fun _ => trivial, fun _ => ⟨env, rfl⟩⟩
abbrev Go (k : Nat) (s : S) (env : Env) : Prop := Ok (evS t.tab (rn (k + 19)) (mkOf t.tab t.ds (k + 19)) 0 s env) QL
theorem t_colors {f : Int → Int → Int} {p : Int → Int → List Int} {d g : Int} {k : Nat} (hp : Plt f p) (h0 : 1 ≤ d) (h1 : d ≤ 186) (h2 : 1 ≤ g) (h4 : g ≤ 16000000) : Tells (k + 6) o3 (B d g) (col p d g) := ⟨rfl, rfl, 3, 12, rfl, rfl, r_colors hp h0 h1 h2 h4⟩
theorem t_cover {d g : Int} {k : Nat} (h0 : 1 ≤ d) (h1 : d ≤ 186) : Tells (k + 1) o19 (B d g) (2 * d) := ⟨rfl, rfl, 19, 41, rfl, rfl, r_cover h0 h1⟩
theorem t_spread {d g m : Int} {k : Nat} : Tells (k + 1) (.ins false 21 [22, 1] [.int m, fa]) (B d g) m := ⟨rfl, rfl, 21, 46, rfl, rfl, r_spread⟩
theorem in7 : t.tab.init 7 = some 19 := rfl
theorem in8 : t.tab.init 8 = some 21 := rfl
theorem in15 : t.tab.init 15 = some 34 := rfl
theorem in16 : t.tab.init 16 = some 36 := rfl
theorem in19 : t.tab.init 19 = some 40 := rfl
theorem in20 : t.tab.init 20 = some 42 := rfl
theorem in21 : t.tab.init 21 = some 45 := rfl
theorem in3 : t.tab.init 3 = some 11 := rfl
theorem me3 : t.tab.meth 3 11 = some 12 := rfl
theorem me7 : t.tab.meth 7 11 = some 20 := rfl
theorem me8 : t.tab.meth 8 11 = some 20 := rfl
theorem me15 : t.tab.meth 15 11 = some 35 := rfl
theorem me16 : t.tab.meth 16 11 = some 35 := rfl
theorem me20 : t.tab.meth 20 11 = some 44 := rfl
section
variable {f u : Int → Int → Int} {p : Int → Int → List Int} {d g e wh i : Int} {k : Nat} {xs : List Int} {l0 l4 l5 l6 l7 l8 l9 l10 l11 l12 l16 l17 l18 l19 l20 l21 : Option W}
theorem mk20 {a : W} {n l : Int} (hn : 1 ≤ n) (hl : 1 ≤ l) (ha : opF (.fld 1) [a] = some tr) (hf : a.isF = true) : rn (k + 10) 42 [.ins true 20 [] [], a, .int n, .int l] = some (.non, [.ins true 20 [13, 19, 20, 1] [a, .int n, .int l, tr]]) := by
  refine ok_eq (ok_run (d := ⟨4, 1, 4, b42⟩) rfl rfl ?_)
  have s1 : ∀ {Q : W → Prop}, Ok (mutF t.tab.fld (.setf 13) [a] (.ins true 20 [] [])) Q ↔ Q (.ins true 20 [13] [a]) := mut_setf rfl (by decide) rfl
  have s2 : ∀ {Q : W → Prop}, Ok (mutF t.tab.fld (.setf 19) [.int n] (.ins true 20 [13] [a])) Q ↔ Q (.ins true 20 [13, 19] [a, .int n]) := mut_setf rfl (by decide) rfl
  have s3 : ∀ {Q : W → Prop}, Ok (mutF t.tab.fld (.setf 20) [.int l] (.ins true 20 [13, 19] [a, .int n])) Q ↔ Q (.ins true 20 [13, 19, 20] [a, .int n, .int l]) := mut_setf rfl (by decide) rfl
  have s4 : ∀ {Q : W → Prop}, Ok (mutF t.tab.fld (.setf 1) [.bl true] (.ins true 20 [13, 19, 20] [a, .int n, .int l])) Q ↔ Q (.ins true 20 [13, 19, 20, 1] [a, .int n, .int l, tr]) := mut_setf rfl (by decide) rfl
  have l1 : ∀ {w : W} {r : Env}, lent 1 (some w :: r) = some [w] := rfl
  simp only [b42, eqo s1, eqo s2, eqo s3, eqo s4, ha, hf, l1, ↓kk, ↓tk, ↓thk, ↓w_cons, ↓w_nil, ↓w_ret, ↓w_asg, ↓w_iff, ↓w_expr, ↓w_aug, ↓w_for, ↓w_whl, ↓w_mut, ↓w_seti, ↓w_setf, ↓w_pass, ↓w_brk, ↓w_cont, ↓w_mut1, ↓v_cal, ↓v_pv, ↓v_bi, ↓v_un, ↓v_ds, ↓v_not, ↓v_or, ↓v_and, ↓v_ife, ↓v_mtv, ↓v_var, ↓v_cab, ↓v_sup, ↓v_mtb, ↓v_mak, ↓v_lcp, ↓v_cons, ↓v_nil, ↓p_bi, ↓p_un, ↓p_peek, ↓p_cst, ↓p_glb, ↓p_or, ↓p_and, ↓p_not, ↓p_ife, ↓a_var, ↓a_tup, ↓a_nil, ↓a_cons, ↓k_mul, ↓k_fdiv, ↓k_mod, ↓k_dtup, ↓k_dlst, ↓kE_mul, ↓k_lcat, ↓k_rng1, ↓k_rng2, ↓k_app, ↓tw_t, ↓tw_f, ↓if2_t, ↓if2_f, ↓one_eq, ↓mkd_eq, ↓th_next, ↓th_ret, ↓th_brk, ↓th_cont, a_var, a_tup, a_nil, a_cons, k_mul, k_fdiv, k_mod, k_dtup, k_dlst, kE_mul, k_lcat, k_rng1, k_rng2, k_app, tw_t, tw_f, if2_t, if2_f, one_eq, mkd_eq, th_next, th_ret, th_brk, th_cont, k_some, q_eq, e_add, e_sub, e_lt, e_le, e_gt, e_ge, e_eq, e_ne, e_neg, e_max, e_min, e_int, e_bitl, e_lenl, e_lent, e_id0, e_id1, eE_add, eE_sub, eE_eq, eE_ne, eE_gt, eE_max, eE_ll, eE_id0, e_seq, pa_rt, up_rt, sb_rt, get_z, get_s, W.isF, isFs, Bool.and_true, Bool.true_and, Bool.not_false, W.frz, frzs, true_implies, reduceCtorEq, false_implies, and_true, true_and, List.map, List.replicate, List.cons_append, List.nil_append, List.set, List.length, lent_0, tw_dec, tw_eq, tw_ne, Bool.true_or, Bool.or_true, Bool.not_true, Bool.false_and, Bool.false_or, Bool.or_false, Bool.and_false, beq_self_eq_true, mkOf_s, e_cls, isLst]
  exact ⟨fun z => absurd z (by omega), fun _ => ⟨fun z => absurd z (by omega), fun _ => trivial⟩⟩
theorem st19 (hp : Plt f p) (hx : 0 < xs.length ∧ xs.length ≤ 1000) (hi0 : 0 ≤ i) (hi1 : i ≤ 1000) (h0 : 1 ≤ d) (h1 : d ≤ 6) (h2 : 1 ≤ g) (h3 : g ≤ 4000) (h4 : 1 ≤ e) (h5 : e ≤ 3) (hw : wh = pwT d e.toNat) (hw0 : 1 ≤ wh) (hw1 : wh ≤ 186) : Go k t54_19 [l0, some (pool xs i), some (.int d), some (B d g), l4, l5, l6, l7, l8, l9, l10, l11, l12, some (.int e), some (B wh g), some (.int wh), l16, l17, l18, l19, l20, l21] := by
  simp only [Go, t54_19, c54_19, ↓kk, ↓tk, ↓thk, ↓w_cons, ↓w_nil, ↓w_ret, ↓w_asg, ↓w_iff, ↓w_expr, ↓w_aug, ↓w_for, ↓w_whl, ↓w_mut, ↓w_seti, ↓w_setf, ↓w_pass, ↓w_brk, ↓w_cont, ↓w_mut1, ↓v_cal, ↓v_pv, ↓v_bi, ↓v_un, ↓v_ds, ↓v_not, ↓v_or, ↓v_and, ↓v_ife, ↓v_mtv, ↓v_var, ↓v_cab, ↓v_sup, ↓v_mtb, ↓v_mak, ↓v_lcp, ↓v_cons, ↓v_nil, ↓p_bi, ↓p_un, ↓p_peek, ↓p_cst, ↓p_glb, ↓p_or, ↓p_and, ↓p_not, ↓p_ife, ↓a_var, ↓a_tup, ↓a_nil, ↓a_cons, ↓k_mul, ↓k_fdiv, ↓k_mod, ↓k_dtup, ↓k_dlst, ↓kE_mul, ↓k_lcat, ↓k_rng1, ↓k_rng2, ↓k_app, ↓tw_t, ↓tw_f, ↓if2_t, ↓if2_f, ↓one_eq, ↓mkd_eq, ↓th_next, ↓th_ret, ↓th_brk, ↓th_cont, a_var, a_tup, a_nil, a_cons, k_mul, k_fdiv, k_mod, k_dtup, k_dlst, kE_mul, k_lcat, k_rng1, k_rng2, k_app, tw_t, tw_f, if2_t, if2_f, one_eq, mkd_eq, th_next, th_ret, th_brk, th_cont, k_some, q_eq, e_add, e_sub, e_lt, e_le, e_gt, e_ge, e_eq, e_ne, e_neg, e_max, e_min, e_int, e_bitl, e_lenl, e_lent, e_id0, e_id1, eE_add, eE_sub, eE_eq, eE_ne, eE_gt, eE_max, eE_ll, eE_id0, e_seq, pa_rt, up_rt, sb_rt, get_z, get_s, W.isF, isFs, Bool.and_true, Bool.true_and, Bool.not_false, W.frz, frzs, true_implies, reduceCtorEq, false_implies, and_true, true_and, List.map, List.replicate, List.cons_append, List.nil_append, List.set, List.length, lent_0, tw_dec, tw_eq, tw_ne, Bool.true_or, Bool.or_true, Bool.not_true, Bool.false_and, Bool.false_or, Bool.or_false, Bool.and_false, beq_self_eq_true, mkOf_s, e_cls, isLst]
  refine draw_ok (k := k + 18) hx (by omega) (by omega) (by omega) fun ct hc0 hc1 => ?_
  have f1 : ∀ v, rn (k + 19) 20 [W.ins false 7 [13, 14, 15, 1] [.ins false 21 [22, 1] [.int ct, fa], .int e, v, tr], B d g] = some (.int (e * (1 + ct)), []) := fun v => r_onpow (k := k + 18) (t0 := wh) (l0 := g) (by omega) (by omega) (by rw [hw]; exact r_power (k := k + 17) h0 (by omega) h4 (by omega)) t_spread
  simp only [t54_20, c54_20, eq_i, in7, in21, mk7, mk21, me7, f1, fit_s (i := e) (by omega) (by omega), ↓kk, ↓tk, ↓thk, ↓w_cons, ↓w_nil, ↓w_ret, ↓w_asg, ↓w_iff, ↓w_expr, ↓w_aug, ↓w_for, ↓w_whl, ↓w_mut, ↓w_seti, ↓w_setf, ↓w_pass, ↓w_brk, ↓w_cont, ↓w_mut1, ↓v_cal, ↓v_pv, ↓v_bi, ↓v_un, ↓v_ds, ↓v_not, ↓v_or, ↓v_and, ↓v_ife, ↓v_mtv, ↓v_var, ↓v_cab, ↓v_sup, ↓v_mtb, ↓v_mak, ↓v_lcp, ↓v_cons, ↓v_nil, ↓p_bi, ↓p_un, ↓p_peek, ↓p_cst, ↓p_glb, ↓p_or, ↓p_and, ↓p_not, ↓p_ife, ↓a_var, ↓a_tup, ↓a_nil, ↓a_cons, ↓k_mul, ↓k_fdiv, ↓k_mod, ↓k_dtup, ↓k_dlst, ↓kE_mul, ↓k_lcat, ↓k_rng1, ↓k_rng2, ↓k_app, ↓tw_t, ↓tw_f, ↓if2_t, ↓if2_f, ↓one_eq, ↓mkd_eq, ↓th_next, ↓th_ret, ↓th_brk, ↓th_cont, a_var, a_tup, a_nil, a_cons, k_mul, k_fdiv, k_mod, k_dtup, k_dlst, kE_mul, k_lcat, k_rng1, k_rng2, k_app, tw_t, tw_f, if2_t, if2_f, one_eq, mkd_eq, th_next, th_ret, th_brk, th_cont, k_some, q_eq, e_add, e_sub, e_lt, e_le, e_gt, e_ge, e_eq, e_ne, e_neg, e_max, e_min, e_int, e_bitl, e_lenl, e_lent, e_id0, e_id1, eE_add, eE_sub, eE_eq, eE_ne, eE_gt, eE_max, eE_ll, eE_id0, e_seq, pa_rt, up_rt, sb_rt, get_z, get_s, W.isF, isFs, Bool.and_true, Bool.true_and, Bool.not_false, W.frz, frzs, true_implies, reduceCtorEq, false_implies, and_true, true_and, List.map, List.replicate, List.cons_append, List.nil_append, List.set, List.length, lent_0, tw_dec, tw_eq, tw_ne, Bool.true_or, Bool.or_true, Bool.not_true, Bool.false_and, Bool.false_or, Bool.or_false, Bool.and_false, beq_self_eq_true, mkOf_s, e_cls, isLst]
  refine ⟨by omega, ?_⟩
  have hgg : g * g ≤ 4000 * 4000 := Int.mul_le_mul h3 h3 (by omega) (by omega)
  have hgg0 : 1 * 1 ≤ g * g := Int.mul_le_mul h2 h2 (by omega) (by omega)
  have g1 : rn (k + 19) 33 [B d g] = some (B (max 1 (2 * d - 2)) (g * g), []) := r_links (k := k + 18) h2 h3 h0 (by omega)
  have tc := t_colors (k := k + 12) hp (d := max 1 (2 * d - 2)) (g := g * g) (by omega) (by omega) (by omega) (by omega)
  have g2 : rn (k + 19) 35 [.ins false 16 [13, 1] [o3, tr], B d g] = some (.int (3 + 2 * col p (max 1 (2 * d - 2)) (g * g)), []) := r_onlink (k := k + 18) (r_links (k := k + 17) h2 h3 h0 (by omega)) tc
  have g3 : rn (k + 19) 12 [o3, B (max 1 (2 * d - 2)) (g * g)] = some (.int (col p (max 1 (2 * d - 2)) (g * g)), []) := r_colors hp (by omega) (by omega) (by omega) (by omega)
  have g4 : rn (k + 19) 35 [.ins false 15 [13, 1] [o19, tr], B d g] = some (.int (3 + 2 * (2 * max 1 (2 * d - 2))), []) := r_onlink (k := k + 18) (r_links (k := k + 17) h2 h3 h0 (by omega)) (t_cover (k := k + 17) (by omega) (by omega))
  simp only [t54_21, c54_21, g1, ↓kk, ↓tk, ↓thk, ↓w_cons, ↓w_nil, ↓w_ret, ↓w_asg, ↓w_iff, ↓w_expr, ↓w_aug, ↓w_for, ↓w_whl, ↓w_mut, ↓w_seti, ↓w_setf, ↓w_pass, ↓w_brk, ↓w_cont, ↓w_mut1, ↓v_cal, ↓v_pv, ↓v_bi, ↓v_un, ↓v_ds, ↓v_not, ↓v_or, ↓v_and, ↓v_ife, ↓v_mtv, ↓v_var, ↓v_cab, ↓v_sup, ↓v_mtb, ↓v_mak, ↓v_lcp, ↓v_cons, ↓v_nil, ↓p_bi, ↓p_un, ↓p_peek, ↓p_cst, ↓p_glb, ↓p_or, ↓p_and, ↓p_not, ↓p_ife, ↓a_var, ↓a_tup, ↓a_nil, ↓a_cons, ↓k_mul, ↓k_fdiv, ↓k_mod, ↓k_dtup, ↓k_dlst, ↓kE_mul, ↓k_lcat, ↓k_rng1, ↓k_rng2, ↓k_app, ↓tw_t, ↓tw_f, ↓if2_t, ↓if2_f, ↓one_eq, ↓mkd_eq, ↓th_next, ↓th_ret, ↓th_brk, ↓th_cont, a_var, a_tup, a_nil, a_cons, k_mul, k_fdiv, k_mod, k_dtup, k_dlst, kE_mul, k_lcat, k_rng1, k_rng2, k_app, tw_t, tw_f, if2_t, if2_f, one_eq, mkd_eq, th_next, th_ret, th_brk, th_cont, k_some, q_eq, e_add, e_sub, e_lt, e_le, e_gt, e_ge, e_eq, e_ne, e_neg, e_max, e_min, e_int, e_bitl, e_lenl, e_lent, e_id0, e_id1, eE_add, eE_sub, eE_eq, eE_ne, eE_gt, eE_max, eE_ll, eE_id0, e_seq, pa_rt, up_rt, sb_rt, get_z, get_s, W.isF, isFs, Bool.and_true, Bool.true_and, Bool.not_false, W.frz, frzs, true_implies, reduceCtorEq, false_implies, and_true, true_and, List.map, List.replicate, List.cons_append, List.nil_append, List.set, List.length, lent_0, tw_dec, tw_eq, tw_ne, Bool.true_or, Bool.or_true, Bool.not_true, Bool.false_and, Bool.false_or, Bool.or_false, Bool.and_false, beq_self_eq_true, mkOf_s, e_cls, isLst]
  refine ⟨by omega, ?_⟩
  simp only [t54_22, c54_22, eq_t, eq_i, in16, in3, mk16, mk3, me16, me3, g2, g3, fit_s (i := 2) (by omega) (by omega), fit_s (i := d) (by omega) (by omega), fit_s (i := g) (by omega) (by omega), ↓kk, ↓tk, ↓thk, ↓w_cons, ↓w_nil, ↓w_ret, ↓w_asg, ↓w_iff, ↓w_expr, ↓w_aug, ↓w_for, ↓w_whl, ↓w_mut, ↓w_seti, ↓w_setf, ↓w_pass, ↓w_brk, ↓w_cont, ↓w_mut1, ↓v_cal, ↓v_pv, ↓v_bi, ↓v_un, ↓v_ds, ↓v_not, ↓v_or, ↓v_and, ↓v_ife, ↓v_mtv, ↓v_var, ↓v_cab, ↓v_sup, ↓v_mtb, ↓v_mak, ↓v_lcp, ↓v_cons, ↓v_nil, ↓p_bi, ↓p_un, ↓p_peek, ↓p_cst, ↓p_glb, ↓p_or, ↓p_and, ↓p_not, ↓p_ife, ↓a_var, ↓a_tup, ↓a_nil, ↓a_cons, ↓k_mul, ↓k_fdiv, ↓k_mod, ↓k_dtup, ↓k_dlst, ↓kE_mul, ↓k_lcat, ↓k_rng1, ↓k_rng2, ↓k_app, ↓tw_t, ↓tw_f, ↓if2_t, ↓if2_f, ↓one_eq, ↓mkd_eq, ↓th_next, ↓th_ret, ↓th_brk, ↓th_cont, a_var, a_tup, a_nil, a_cons, k_mul, k_fdiv, k_mod, k_dtup, k_dlst, kE_mul, k_lcat, k_rng1, k_rng2, k_app, tw_t, tw_f, if2_t, if2_f, one_eq, mkd_eq, th_next, th_ret, th_brk, th_cont, k_some, q_eq, e_add, e_sub, e_lt, e_le, e_gt, e_ge, e_eq, e_ne, e_neg, e_max, e_min, e_int, e_bitl, e_lenl, e_lent, e_id0, e_id1, eE_add, eE_sub, eE_eq, eE_ne, eE_gt, eE_max, eE_ll, eE_id0, e_seq, pa_rt, up_rt, sb_rt, get_z, get_s, W.isF, isFs, Bool.and_true, Bool.true_and, Bool.not_false, W.frz, frzs, true_implies, reduceCtorEq, false_implies, and_true, true_and, List.map, List.replicate, List.cons_append, List.nil_append, List.set, List.length, lent_0, tw_dec, tw_eq, tw_ne, Bool.true_or, Bool.or_true, Bool.not_true, Bool.false_and, Bool.false_or, Bool.or_false, Bool.and_false, beq_self_eq_true, mkOf_s, e_cls, isLst]
  refine ⟨by decide, ?_⟩
  have gl : 3 + 2 * (2 * max 1 (2 * d - 2)) = 3 + 4 * max 1 (2 * d - 2) := by omega
  simp only [t54_23, c54_23, eq_i, in15, in19, mk15, mk19, me15, g4, fit_s (i := 4) (by omega) (by omega), ↓kk, ↓tk, ↓thk, ↓w_cons, ↓w_nil, ↓w_ret, ↓w_asg, ↓w_iff, ↓w_expr, ↓w_aug, ↓w_for, ↓w_whl, ↓w_mut, ↓w_seti, ↓w_setf, ↓w_pass, ↓w_brk, ↓w_cont, ↓w_mut1, ↓v_cal, ↓v_pv, ↓v_bi, ↓v_un, ↓v_ds, ↓v_not, ↓v_or, ↓v_and, ↓v_ife, ↓v_mtv, ↓v_var, ↓v_cab, ↓v_sup, ↓v_mtb, ↓v_mak, ↓v_lcp, ↓v_cons, ↓v_nil, ↓p_bi, ↓p_un, ↓p_peek, ↓p_cst, ↓p_glb, ↓p_or, ↓p_and, ↓p_not, ↓p_ife, ↓a_var, ↓a_tup, ↓a_nil, ↓a_cons, ↓k_mul, ↓k_fdiv, ↓k_mod, ↓k_dtup, ↓k_dlst, ↓kE_mul, ↓k_lcat, ↓k_rng1, ↓k_rng2, ↓k_app, ↓tw_t, ↓tw_f, ↓if2_t, ↓if2_f, ↓one_eq, ↓mkd_eq, ↓th_next, ↓th_ret, ↓th_brk, ↓th_cont, a_var, a_tup, a_nil, a_cons, k_mul, k_fdiv, k_mod, k_dtup, k_dlst, kE_mul, k_lcat, k_rng1, k_rng2, k_app, tw_t, tw_f, if2_t, if2_f, one_eq, mkd_eq, th_next, th_ret, th_brk, th_cont, k_some, q_eq, e_add, e_sub, e_lt, e_le, e_gt, e_ge, e_eq, e_ne, e_neg, e_max, e_min, e_int, e_bitl, e_lenl, e_lent, e_id0, e_id1, eE_add, eE_sub, eE_eq, eE_ne, eE_gt, eE_max, eE_ll, eE_id0, e_seq, pa_rt, up_rt, sb_rt, get_z, get_s, W.isF, isFs, Bool.and_true, Bool.true_and, Bool.not_false, W.frz, frzs, true_implies, reduceCtorEq, false_implies, and_true, true_and, List.map, List.replicate, List.cons_append, List.nil_append, List.set, List.length, lent_0, tw_dec, tw_eq, tw_ne, Bool.true_or, Bool.or_true, Bool.not_true, Bool.false_and, Bool.false_or, Bool.or_false, Bool.and_false, beq_self_eq_true, mkOf_s, e_cls, isLst]
  refine ⟨fun _ => ?_, fun z => absurd gl z⟩
  simp only [t54_24, c54_24, ↓kk, ↓tk, ↓thk, ↓w_cons, ↓w_nil, ↓w_ret, ↓w_asg, ↓w_iff, ↓w_expr, ↓w_aug, ↓w_for, ↓w_whl, ↓w_mut, ↓w_seti, ↓w_setf, ↓w_pass, ↓w_brk, ↓w_cont, ↓w_mut1, ↓v_cal, ↓v_pv, ↓v_bi, ↓v_un, ↓v_ds, ↓v_not, ↓v_or, ↓v_and, ↓v_ife, ↓v_mtv, ↓v_var, ↓v_cab, ↓v_sup, ↓v_mtb, ↓v_mak, ↓v_lcp, ↓v_cons, ↓v_nil, ↓p_bi, ↓p_un, ↓p_peek, ↓p_cst, ↓p_glb, ↓p_or, ↓p_and, ↓p_not, ↓p_ife, ↓a_var, ↓a_tup, ↓a_nil, ↓a_cons, ↓k_mul, ↓k_fdiv, ↓k_mod, ↓k_dtup, ↓k_dlst, ↓kE_mul, ↓k_lcat, ↓k_rng1, ↓k_rng2, ↓k_app, ↓tw_t, ↓tw_f, ↓if2_t, ↓if2_f, ↓one_eq, ↓mkd_eq, ↓th_next, ↓th_ret, ↓th_brk, ↓th_cont, a_var, a_tup, a_nil, a_cons, k_mul, k_fdiv, k_mod, k_dtup, k_dlst, kE_mul, k_lcat, k_rng1, k_rng2, k_app, tw_t, tw_f, if2_t, if2_f, one_eq, mkd_eq, th_next, th_ret, th_brk, th_cont, k_some, q_eq, e_add, e_sub, e_lt, e_le, e_gt, e_ge, e_eq, e_ne, e_neg, e_max, e_min, e_int, e_bitl, e_lenl, e_lent, e_id0, e_id1, eE_add, eE_sub, eE_eq, eE_ne, eE_gt, eE_max, eE_ll, eE_id0, e_seq, pa_rt, up_rt, sb_rt, get_z, get_s, W.isF, isFs, Bool.and_true, Bool.true_and, Bool.not_false, W.frz, frzs, true_implies, reduceCtorEq, false_implies, and_true, true_and, List.map, List.replicate, List.cons_append, List.nil_append, List.set, List.length, lent_0, tw_dec, tw_eq, tw_ne, Bool.true_or, Bool.or_true, Bool.not_true, Bool.false_and, Bool.false_or, Bool.or_false, Bool.and_false, beq_self_eq_true, mkOf_s, e_cls, isLst]
  refine draw_ok (k := k + 18) hx (by omega) (by omega) (by omega) fun s0 hs0 hs1 => ?_
  simp only [t54_25, c54_25, ↓kk, ↓tk, ↓thk, ↓w_cons, ↓w_nil, ↓w_ret, ↓w_asg, ↓w_iff, ↓w_expr, ↓w_aug, ↓w_for, ↓w_whl, ↓w_mut, ↓w_seti, ↓w_setf, ↓w_pass, ↓w_brk, ↓w_cont, ↓w_mut1, ↓v_cal, ↓v_pv, ↓v_bi, ↓v_un, ↓v_ds, ↓v_not, ↓v_or, ↓v_and, ↓v_ife, ↓v_mtv, ↓v_var, ↓v_cab, ↓v_sup, ↓v_mtb, ↓v_mak, ↓v_lcp, ↓v_cons, ↓v_nil, ↓p_bi, ↓p_un, ↓p_peek, ↓p_cst, ↓p_glb, ↓p_or, ↓p_and, ↓p_not, ↓p_ife, ↓a_var, ↓a_tup, ↓a_nil, ↓a_cons, ↓k_mul, ↓k_fdiv, ↓k_mod, ↓k_dtup, ↓k_dlst, ↓kE_mul, ↓k_lcat, ↓k_rng1, ↓k_rng2, ↓k_app, ↓tw_t, ↓tw_f, ↓if2_t, ↓if2_f, ↓one_eq, ↓mkd_eq, ↓th_next, ↓th_ret, ↓th_brk, ↓th_cont, a_var, a_tup, a_nil, a_cons, k_mul, k_fdiv, k_mod, k_dtup, k_dlst, kE_mul, k_lcat, k_rng1, k_rng2, k_app, tw_t, tw_f, if2_t, if2_f, one_eq, mkd_eq, th_next, th_ret, th_brk, th_cont, k_some, q_eq, e_add, e_sub, e_lt, e_le, e_gt, e_ge, e_eq, e_ne, e_neg, e_max, e_min, e_int, e_bitl, e_lenl, e_lent, e_id0, e_id1, eE_add, eE_sub, eE_eq, eE_ne, eE_gt, eE_max, eE_ll, eE_id0, e_seq, pa_rt, up_rt, sb_rt, get_z, get_s, W.isF, isFs, Bool.and_true, Bool.true_and, Bool.not_false, W.frz, frzs, true_implies, reduceCtorEq, false_implies, and_true, true_and, List.map, List.replicate, List.cons_append, List.nil_append, List.set, List.length, lent_0, tw_dec, tw_eq, tw_ne, Bool.true_or, Bool.or_true, Bool.not_true, Bool.false_and, Bool.false_or, Bool.or_false, Bool.and_false, beq_self_eq_true, mkOf_s, e_cls, isLst]
  refine ⟨by omega, ?_⟩
  refine draw_ok (k := k + 18) hx (by omega) (by omega) (by omega) fun n0 hn0 hn1 => ?_
  obtain ⟨s1, hs⟩ : ∃ s1, s1 = 1 + s0 := ⟨_, rfl⟩
  obtain ⟨n1, hn⟩ : ∃ n1, n1 = 1 + n0 := ⟨_, rfl⟩
  rw [← hs]
  simp only [↓kk, ↓tk, ↓thk, ↓w_cons, ↓w_nil, ↓w_ret, ↓w_asg, ↓w_iff, ↓w_expr, ↓w_aug, ↓w_for, ↓w_whl, ↓w_mut, ↓w_seti, ↓w_setf, ↓w_pass, ↓w_brk, ↓w_cont, ↓w_mut1, ↓v_cal, ↓v_pv, ↓v_bi, ↓v_un, ↓v_ds, ↓v_not, ↓v_or, ↓v_and, ↓v_ife, ↓v_mtv, ↓v_var, ↓v_cab, ↓v_sup, ↓v_mtb, ↓v_mak, ↓v_lcp, ↓v_cons, ↓v_nil, ↓p_bi, ↓p_un, ↓p_peek, ↓p_cst, ↓p_glb, ↓p_or, ↓p_and, ↓p_not, ↓p_ife, ↓a_var, ↓a_tup, ↓a_nil, ↓a_cons, ↓k_mul, ↓k_fdiv, ↓k_mod, ↓k_dtup, ↓k_dlst, ↓kE_mul, ↓k_lcat, ↓k_rng1, ↓k_rng2, ↓k_app, ↓tw_t, ↓tw_f, ↓if2_t, ↓if2_f, ↓one_eq, ↓mkd_eq, ↓th_next, ↓th_ret, ↓th_brk, ↓th_cont, a_var, a_tup, a_nil, a_cons, k_mul, k_fdiv, k_mod, k_dtup, k_dlst, kE_mul, k_lcat, k_rng1, k_rng2, k_app, tw_t, tw_f, if2_t, if2_f, one_eq, mkd_eq, th_next, th_ret, th_brk, th_cont, k_some, q_eq, e_add, e_sub, e_lt, e_le, e_gt, e_ge, e_eq, e_ne, e_neg, e_max, e_min, e_int, e_bitl, e_lenl, e_lent, e_id0, e_id1, eE_add, eE_sub, eE_eq, eE_ne, eE_gt, eE_max, eE_ll, eE_id0, e_seq, pa_rt, up_rt, sb_rt, get_z, get_s, W.isF, isFs, Bool.and_true, Bool.true_and, Bool.not_false, W.frz, frzs, true_implies, reduceCtorEq, false_implies, and_true, true_and, List.map, List.replicate, List.cons_append, List.nil_append, List.set, List.length, lent_0, tw_dec, tw_eq, tw_ne, Bool.true_or, Bool.or_true, Bool.not_true, Bool.false_and, Bool.false_or, Bool.or_false, Bool.and_false, beq_self_eq_true, mkOf_s, e_cls, isLst]
  rw [← hn]
  refine ⟨by omega, ?_⟩
  have m20 : rn (k + 18) 42 [.ins true 20 [] [], .ins false 7 [13, 14, 15, 1] [.ins false 21 [22, 1] [.int ct, fa], .int e, gaf e, tr], .int s1, .int n1] = some (.non, [.ins true 20 [13, 19, 20, 1] [.ins false 7 [13, 14, 15, 1] [.ins false 21 [22, 1] [.int ct, fa], .int e, gaf e, tr], .int s1, .int n1, tr]]) := mk20 (k := k + 8) (by omega) (by omega) rfl rfl
  simp only [t54_26, c54_26, in20, in7, in21, mk21, mk7, m20, ↓kk, ↓tk, ↓thk, ↓w_cons, ↓w_nil, ↓w_ret, ↓w_asg, ↓w_iff, ↓w_expr, ↓w_aug, ↓w_for, ↓w_whl, ↓w_mut, ↓w_seti, ↓w_setf, ↓w_pass, ↓w_brk, ↓w_cont, ↓w_mut1, ↓v_cal, ↓v_pv, ↓v_bi, ↓v_un, ↓v_ds, ↓v_not, ↓v_or, ↓v_and, ↓v_ife, ↓v_mtv, ↓v_var, ↓v_cab, ↓v_sup, ↓v_mtb, ↓v_mak, ↓v_lcp, ↓v_cons, ↓v_nil, ↓p_bi, ↓p_un, ↓p_peek, ↓p_cst, ↓p_glb, ↓p_or, ↓p_and, ↓p_not, ↓p_ife, ↓a_var, ↓a_tup, ↓a_nil, ↓a_cons, ↓k_mul, ↓k_fdiv, ↓k_mod, ↓k_dtup, ↓k_dlst, ↓kE_mul, ↓k_lcat, ↓k_rng1, ↓k_rng2, ↓k_app, ↓tw_t, ↓tw_f, ↓if2_t, ↓if2_f, ↓one_eq, ↓mkd_eq, ↓th_next, ↓th_ret, ↓th_brk, ↓th_cont, a_var, a_tup, a_nil, a_cons, k_mul, k_fdiv, k_mod, k_dtup, k_dlst, kE_mul, k_lcat, k_rng1, k_rng2, k_app, tw_t, tw_f, if2_t, if2_f, one_eq, mkd_eq, th_next, th_ret, th_brk, th_cont, k_some, q_eq, e_add, e_sub, e_lt, e_le, e_gt, e_ge, e_eq, e_ne, e_neg, e_max, e_min, e_int, e_bitl, e_lenl, e_lent, e_id0, e_id1, eE_add, eE_sub, eE_eq, eE_ne, eE_gt, eE_max, eE_ll, eE_id0, e_seq, pa_rt, up_rt, sb_rt, get_z, get_s, W.isF, isFs, Bool.and_true, Bool.true_and, Bool.not_false, W.frz, frzs, true_implies, reduceCtorEq, false_implies, and_true, true_and, List.map, List.replicate, List.cons_append, List.nil_append, List.set, List.length, lent_0, tw_dec, tw_eq, tw_ne, Bool.true_or, Bool.or_true, Bool.not_true, Bool.false_and, Bool.false_or, Bool.or_false, Bool.and_false, beq_self_eq_true, mkOf_s, e_cls, isLst]
  refine ⟨by omega, ?_⟩
  have he : e * (1 + ct) ≤ 3 * 5 := Int.mul_le_mul h5 (by omega) (by omega) (by omega)
  have he0 : 0 ≤ e * (1 + ct) := Int.mul_nonneg (by omega) (by omega)
  have ta : Tells (k + 18) (.ins false 7 [13, 14, 15, 1] [.ins false 21 [22, 1] [.int ct, fa], .int e, gaf e, tr]) (B d g) (e * (1 + ct)) := ⟨rfl, rfl, 7, 20, rfl, rfl, r_onpow (k := k + 17) (t0 := wh) (l0 := g) (by omega) (by omega) (by rw [hw]; exact r_power (k := k + 16) h0 (by omega) h4 (by omega)) t_spread⟩
  have g5 : rn (k + 19) 44 [.ins false 20 [13, 19, 20, 1] [.ins false 7 [13, 14, 15, 1] [.ins false 21 [22, 1] [.int ct, fa], .int e, gaf e, tr], .int s1, .int n1, tr], B d g] = some (.int (e * (1 + ct) * ((n1 + s1 - 1) / s1)), []) := r_pieces (k := k + 18) (by omega) (by omega) (by omega) (fit_s (by omega) (by omega)) ta
  simp only [t54_27, c54_27, eq_i, me20, g5, fit_s (i := e) (by omega) (by omega), fit_s (i := e * (1 + ct)) (by omega) (by omega), ↓kk, ↓tk, ↓thk, ↓w_cons, ↓w_nil, ↓w_ret, ↓w_asg, ↓w_iff, ↓w_expr, ↓w_aug, ↓w_for, ↓w_whl, ↓w_mut, ↓w_seti, ↓w_setf, ↓w_pass, ↓w_brk, ↓w_cont, ↓w_mut1, ↓v_cal, ↓v_pv, ↓v_bi, ↓v_un, ↓v_ds, ↓v_not, ↓v_or, ↓v_and, ↓v_ife, ↓v_mtv, ↓v_var, ↓v_cab, ↓v_sup, ↓v_mtb, ↓v_mak, ↓v_lcp, ↓v_cons, ↓v_nil, ↓p_bi, ↓p_un, ↓p_peek, ↓p_cst, ↓p_glb, ↓p_or, ↓p_and, ↓p_not, ↓p_ife, ↓a_var, ↓a_tup, ↓a_nil, ↓a_cons, ↓k_mul, ↓k_fdiv, ↓k_mod, ↓k_dtup, ↓k_dlst, ↓kE_mul, ↓k_lcat, ↓k_rng1, ↓k_rng2, ↓k_app, ↓tw_t, ↓tw_f, ↓if2_t, ↓if2_f, ↓one_eq, ↓mkd_eq, ↓th_next, ↓th_ret, ↓th_brk, ↓th_cont, a_var, a_tup, a_nil, a_cons, k_mul, k_fdiv, k_mod, k_dtup, k_dlst, kE_mul, k_lcat, k_rng1, k_rng2, k_app, tw_t, tw_f, if2_t, if2_f, one_eq, mkd_eq, th_next, th_ret, th_brk, th_cont, k_some, q_eq, e_add, e_sub, e_lt, e_le, e_gt, e_ge, e_eq, e_ne, e_neg, e_max, e_min, e_int, e_bitl, e_lenl, e_lent, e_id0, e_id1, eE_add, eE_sub, eE_eq, eE_ne, eE_gt, eE_max, eE_ll, eE_id0, e_seq, pa_rt, up_rt, sb_rt, get_z, get_s, W.isF, isFs, Bool.and_true, Bool.true_and, Bool.not_false, W.frz, frzs, true_implies, reduceCtorEq, false_implies, and_true, true_and, List.map, List.replicate, List.cons_append, List.nil_append, List.set, List.length, lent_0, tw_dec, tw_eq, tw_ne, Bool.true_or, Bool.or_true, Bool.not_true, Bool.false_and, Bool.false_or, Bool.or_false, Bool.and_false, beq_self_eq_true, mkOf_s, e_cls, isLst]
  exact ⟨by omega, _, rfl⟩
theorem st18 (hp : Plt f p) (hx : 0 < xs.length ∧ xs.length ≤ 1000) (hi0 : 0 ≤ i) (hi1 : i ≤ 1000) (h0 : 1 ≤ d) (h1 : d ≤ 6) (h2 : 1 ≤ g) (h3 : g ≤ 4000) (h4 : 1 ≤ e) (h5 : e ≤ 3) (hw : wh = pwT d e.toNat) (hw0 : 1 ≤ wh) (hw1 : wh ≤ 186) : Go k t54_18 [l0, some (pool xs i), some (.int d), some (B d g), l4, l5, l6, l7, l8, l9, l10, l11, l12, some (.int e), some (B wh g), some (.int wh), l16, l17, l18, l19, l20, l21] := by
  have f1 : rn (k + 19) 20 [.ins false 8 [13, 14, 15, 1] [o3, .int e, gaf e, tr], B d g] = some (.int (e * (1 + col p wh g)), []) := r_onpow (by omega) (by omega) (by rw [hw]; exact r_power (k := k + 17) h0 (by omega) h4 (by omega)) (t_colors hp hw0 hw1 h2 (by omega))
  have f2 : rn (k + 19) 12 [o3, B wh g] = some (.int (col p wh g), []) := r_colors hp hw0 hw1 h2 (by omega)
  simp only [Go, t54_18, c54_18, eq_t, eq_i, in8, in3, mk8, mk3, me8, me3, f1, f2, fit_s (i := e) (by omega) (by omega), ↓kk, ↓tk, ↓thk, ↓w_cons, ↓w_nil, ↓w_ret, ↓w_asg, ↓w_iff, ↓w_expr, ↓w_aug, ↓w_for, ↓w_whl, ↓w_mut, ↓w_seti, ↓w_setf, ↓w_pass, ↓w_brk, ↓w_cont, ↓w_mut1, ↓v_cal, ↓v_pv, ↓v_bi, ↓v_un, ↓v_ds, ↓v_not, ↓v_or, ↓v_and, ↓v_ife, ↓v_mtv, ↓v_var, ↓v_cab, ↓v_sup, ↓v_mtb, ↓v_mak, ↓v_lcp, ↓v_cons, ↓v_nil, ↓p_bi, ↓p_un, ↓p_peek, ↓p_cst, ↓p_glb, ↓p_or, ↓p_and, ↓p_not, ↓p_ife, ↓a_var, ↓a_tup, ↓a_nil, ↓a_cons, ↓k_mul, ↓k_fdiv, ↓k_mod, ↓k_dtup, ↓k_dlst, ↓kE_mul, ↓k_lcat, ↓k_rng1, ↓k_rng2, ↓k_app, ↓tw_t, ↓tw_f, ↓if2_t, ↓if2_f, ↓one_eq, ↓mkd_eq, ↓th_next, ↓th_ret, ↓th_brk, ↓th_cont, a_var, a_tup, a_nil, a_cons, k_mul, k_fdiv, k_mod, k_dtup, k_dlst, kE_mul, k_lcat, k_rng1, k_rng2, k_app, tw_t, tw_f, if2_t, if2_f, one_eq, mkd_eq, th_next, th_ret, th_brk, th_cont, k_some, q_eq, e_add, e_sub, e_lt, e_le, e_gt, e_ge, e_eq, e_ne, e_neg, e_max, e_min, e_int, e_bitl, e_lenl, e_lent, e_id0, e_id1, eE_add, eE_sub, eE_eq, eE_ne, eE_gt, eE_max, eE_ll, eE_id0, e_seq, pa_rt, up_rt, sb_rt, get_z, get_s, W.isF, isFs, Bool.and_true, Bool.true_and, Bool.not_false, W.frz, frzs, true_implies, reduceCtorEq, false_implies, and_true, true_and, List.map, List.replicate, List.cons_append, List.nil_append, List.set, List.length, lent_0, tw_dec, tw_eq, tw_ne, Bool.true_or, Bool.or_true, Bool.not_true, Bool.false_and, Bool.false_or, Bool.or_false, Bool.and_false, beq_self_eq_true, mkOf_s, e_cls, isLst]
  exact ⟨by decide, st19 hp hx hi0 hi1 h0 h1 h2 h3 h4 h5 hw hw0 hw1⟩
theorem pw_ok {d e : Int} (h0 : 1 ≤ d) (h1 : d ≤ 6) (h4 : 1 ≤ e) (h5 : e ≤ 3) : 1 ≤ pwT d e.toNat ∧ pwT d e.toNat ≤ 186 := by
  rcases (show e = 1 ∨ e = 2 ∨ e = 3 by omega) with rfl | rfl | rfl <;> rcases (show d = 1 ∨ d = 2 ∨ d = 3 ∨ d = 4 ∨ d = 5 ∨ d = 6 by omega) with rfl | rfl | rfl | rfl | rfl | rfl <;> decide
theorem st13 {l13 l14 l15 : Option W} (hp : Plt f p) (hx : 0 < xs.length ∧ xs.length ≤ 1000) (hi0 : 0 ≤ i) (hi1 : i ≤ 900) (h0 : 1 ≤ d) (h1 : d ≤ 6) (h2 : 1 ≤ g) (h3 : g ≤ 4000) : Go k t54_13 [l0, some (pool xs i), some (.int d), some (B d g), l4, l5, l6, l7, l8, l9, l10, l11, l12, l13, l14, l15, l16, l17, l18, l19, l20, l21] := by
  simp only [Go, t54_13, c54_13, ↓kk, ↓tk, ↓thk, ↓w_cons, ↓w_nil, ↓w_ret, ↓w_asg, ↓w_iff, ↓w_expr, ↓w_aug, ↓w_for, ↓w_whl, ↓w_mut, ↓w_seti, ↓w_setf, ↓w_pass, ↓w_brk, ↓w_cont, ↓w_mut1, ↓v_cal, ↓v_pv, ↓v_bi, ↓v_un, ↓v_ds, ↓v_not, ↓v_or, ↓v_and, ↓v_ife, ↓v_mtv, ↓v_var, ↓v_cab, ↓v_sup, ↓v_mtb, ↓v_mak, ↓v_lcp, ↓v_cons, ↓v_nil, ↓p_bi, ↓p_un, ↓p_peek, ↓p_cst, ↓p_glb, ↓p_or, ↓p_and, ↓p_not, ↓p_ife, ↓a_var, ↓a_tup, ↓a_nil, ↓a_cons, ↓k_mul, ↓k_fdiv, ↓k_mod, ↓k_dtup, ↓k_dlst, ↓kE_mul, ↓k_lcat, ↓k_rng1, ↓k_rng2, ↓k_app, ↓tw_t, ↓tw_f, ↓if2_t, ↓if2_f, ↓one_eq, ↓mkd_eq, ↓th_next, ↓th_ret, ↓th_brk, ↓th_cont, a_var, a_tup, a_nil, a_cons, k_mul, k_fdiv, k_mod, k_dtup, k_dlst, kE_mul, k_lcat, k_rng1, k_rng2, k_app, tw_t, tw_f, if2_t, if2_f, one_eq, mkd_eq, th_next, th_ret, th_brk, th_cont, k_some, q_eq, e_add, e_sub, e_lt, e_le, e_gt, e_ge, e_eq, e_ne, e_neg, e_max, e_min, e_int, e_bitl, e_lenl, e_lent, e_id0, e_id1, eE_add, eE_sub, eE_eq, eE_ne, eE_gt, eE_max, eE_ll, eE_id0, e_seq, pa_rt, up_rt, sb_rt, get_z, get_s, W.isF, isFs, Bool.and_true, Bool.true_and, Bool.not_false, W.frz, frzs, true_implies, reduceCtorEq, false_implies, and_true, true_and, List.map, List.replicate, List.cons_append, List.nil_append, List.set, List.length, lent_0, tw_dec, tw_eq, tw_ne, Bool.true_or, Bool.or_true, Bool.not_true, Bool.false_and, Bool.false_or, Bool.or_false, Bool.and_false, beq_self_eq_true, mkOf_s, e_cls, isLst]
  refine draw_ok (k := k + 18) hx (by omega) (by omega) (by omega) fun e0 he0 he1 => ?_
  obtain ⟨e, he⟩ : ∃ e, e = 1 + e0 := ⟨_, rfl⟩
  simp only [↓kk, ↓tk, ↓thk, ↓w_cons, ↓w_nil, ↓w_ret, ↓w_asg, ↓w_iff, ↓w_expr, ↓w_aug, ↓w_for, ↓w_whl, ↓w_mut, ↓w_seti, ↓w_setf, ↓w_pass, ↓w_brk, ↓w_cont, ↓w_mut1, ↓v_cal, ↓v_pv, ↓v_bi, ↓v_un, ↓v_ds, ↓v_not, ↓v_or, ↓v_and, ↓v_ife, ↓v_mtv, ↓v_var, ↓v_cab, ↓v_sup, ↓v_mtb, ↓v_mak, ↓v_lcp, ↓v_cons, ↓v_nil, ↓p_bi, ↓p_un, ↓p_peek, ↓p_cst, ↓p_glb, ↓p_or, ↓p_and, ↓p_not, ↓p_ife, ↓a_var, ↓a_tup, ↓a_nil, ↓a_cons, ↓k_mul, ↓k_fdiv, ↓k_mod, ↓k_dtup, ↓k_dlst, ↓kE_mul, ↓k_lcat, ↓k_rng1, ↓k_rng2, ↓k_app, ↓tw_t, ↓tw_f, ↓if2_t, ↓if2_f, ↓one_eq, ↓mkd_eq, ↓th_next, ↓th_ret, ↓th_brk, ↓th_cont, a_var, a_tup, a_nil, a_cons, k_mul, k_fdiv, k_mod, k_dtup, k_dlst, kE_mul, k_lcat, k_rng1, k_rng2, k_app, tw_t, tw_f, if2_t, if2_f, one_eq, mkd_eq, th_next, th_ret, th_brk, th_cont, k_some, q_eq, e_add, e_sub, e_lt, e_le, e_gt, e_ge, e_eq, e_ne, e_neg, e_max, e_min, e_int, e_bitl, e_lenl, e_lent, e_id0, e_id1, eE_add, eE_sub, eE_eq, eE_ne, eE_gt, eE_max, eE_ll, eE_id0, e_seq, pa_rt, up_rt, sb_rt, get_z, get_s, W.isF, isFs, Bool.and_true, Bool.true_and, Bool.not_false, W.frz, frzs, true_implies, reduceCtorEq, false_implies, and_true, true_and, List.map, List.replicate, List.cons_append, List.nil_append, List.set, List.length, lent_0, tw_dec, tw_eq, tw_ne, Bool.true_or, Bool.or_true, Bool.not_true, Bool.false_and, Bool.false_or, Bool.or_false, Bool.and_false, beq_self_eq_true, mkOf_s, e_cls, isLst]
  rw [← he]
  refine ⟨by omega, ?_⟩
  have g1 : rn (k + 19) 18 [B d g, .int e] = some (B (pwT d e.toNat) g, []) := r_power (k := k + 18) h0 (by omega) (by omega) (by omega)
  have hw := pw_ok h0 h1 (show 1 ≤ e by omega) (show e ≤ 3 by omega)
  simp only [t54_14, c54_14, t54_15, c54_15, t54_16, c54_16, t54_17, c54_17, g1, ↓kk, ↓tk, ↓thk, ↓w_cons, ↓w_nil, ↓w_ret, ↓w_asg, ↓w_iff, ↓w_expr, ↓w_aug, ↓w_for, ↓w_whl, ↓w_mut, ↓w_seti, ↓w_setf, ↓w_pass, ↓w_brk, ↓w_cont, ↓w_mut1, ↓v_cal, ↓v_pv, ↓v_bi, ↓v_un, ↓v_ds, ↓v_not, ↓v_or, ↓v_and, ↓v_ife, ↓v_mtv, ↓v_var, ↓v_cab, ↓v_sup, ↓v_mtb, ↓v_mak, ↓v_lcp, ↓v_cons, ↓v_nil, ↓p_bi, ↓p_un, ↓p_peek, ↓p_cst, ↓p_glb, ↓p_or, ↓p_and, ↓p_not, ↓p_ife, ↓a_var, ↓a_tup, ↓a_nil, ↓a_cons, ↓k_mul, ↓k_fdiv, ↓k_mod, ↓k_dtup, ↓k_dlst, ↓kE_mul, ↓k_lcat, ↓k_rng1, ↓k_rng2, ↓k_app, ↓tw_t, ↓tw_f, ↓if2_t, ↓if2_f, ↓one_eq, ↓mkd_eq, ↓th_next, ↓th_ret, ↓th_brk, ↓th_cont, a_var, a_tup, a_nil, a_cons, k_mul, k_fdiv, k_mod, k_dtup, k_dlst, kE_mul, k_lcat, k_rng1, k_rng2, k_app, tw_t, tw_f, if2_t, if2_f, one_eq, mkd_eq, th_next, th_ret, th_brk, th_cont, k_some, q_eq, e_add, e_sub, e_lt, e_le, e_gt, e_ge, e_eq, e_ne, e_neg, e_max, e_min, e_int, e_bitl, e_lenl, e_lent, e_id0, e_id1, eE_add, eE_sub, eE_eq, eE_ne, eE_gt, eE_max, eE_ll, eE_id0, e_seq, pa_rt, up_rt, sb_rt, get_z, get_s, W.isF, isFs, Bool.and_true, Bool.true_and, Bool.not_false, W.frz, frzs, true_implies, reduceCtorEq, false_implies, and_true, true_and, List.map, List.replicate, List.cons_append, List.nil_append, List.set, List.length, lent_0, tw_dec, tw_eq, tw_ne, Bool.true_or, Bool.or_true, Bool.not_true, Bool.false_and, Bool.false_or, Bool.or_false, Bool.and_false, beq_self_eq_true, mkOf_s, e_cls, isLst]
  refine ⟨by omega, by omega, by omega, by omega, ?_⟩
  refine ok_for (I := fun ws env => ∃ (j : Nat) (l6 : Option W), env = [l0, some (pool xs (i + 1)), some (.int d), some (B d g), l4, l5, l6, l7, l8, l9, l10, l11, l12, some (.int e), some (B (pwT d e.toNat) g), some (.int (pwT d j)), some (.int (pwL d j)), l17, l18, l19, l20, l21] ∧ ws.length + j = e.toNat) ?_ ?_ _ _ ⟨0, l6, rfl, by simp⟩
  · rintro env ⟨j, l6, rfl, h⟩
    have : j = e.toNat := by simpa using h
    subst this
    simp only [↓kk, ↓tk, ↓thk, ↓w_cons, ↓w_nil, ↓w_ret, ↓w_asg, ↓w_iff, ↓w_expr, ↓w_aug, ↓w_for, ↓w_whl, ↓w_mut, ↓w_seti, ↓w_setf, ↓w_pass, ↓w_brk, ↓w_cont, ↓w_mut1, ↓v_cal, ↓v_pv, ↓v_bi, ↓v_un, ↓v_ds, ↓v_not, ↓v_or, ↓v_and, ↓v_ife, ↓v_mtv, ↓v_var, ↓v_cab, ↓v_sup, ↓v_mtb, ↓v_mak, ↓v_lcp, ↓v_cons, ↓v_nil, ↓p_bi, ↓p_un, ↓p_peek, ↓p_cst, ↓p_glb, ↓p_or, ↓p_and, ↓p_not, ↓p_ife, ↓a_var, ↓a_tup, ↓a_nil, ↓a_cons, ↓k_mul, ↓k_fdiv, ↓k_mod, ↓k_dtup, ↓k_dlst, ↓kE_mul, ↓k_lcat, ↓k_rng1, ↓k_rng2, ↓k_app, ↓tw_t, ↓tw_f, ↓if2_t, ↓if2_f, ↓one_eq, ↓mkd_eq, ↓th_next, ↓th_ret, ↓th_brk, ↓th_cont, a_var, a_tup, a_nil, a_cons, k_mul, k_fdiv, k_mod, k_dtup, k_dlst, kE_mul, k_lcat, k_rng1, k_rng2, k_app, tw_t, tw_f, if2_t, if2_f, one_eq, mkd_eq, th_next, th_ret, th_brk, th_cont, k_some, q_eq, e_add, e_sub, e_lt, e_le, e_gt, e_ge, e_eq, e_ne, e_neg, e_max, e_min, e_int, e_bitl, e_lenl, e_lent, e_id0, e_id1, eE_add, eE_sub, eE_eq, eE_ne, eE_gt, eE_max, eE_ll, eE_id0, e_seq, pa_rt, up_rt, sb_rt, get_z, get_s, W.isF, isFs, Bool.and_true, Bool.true_and, Bool.not_false, W.frz, frzs, true_implies, reduceCtorEq, false_implies, and_true, true_and, List.map, List.replicate, List.cons_append, List.nil_append, List.set, List.length, lent_0, tw_dec, tw_eq, tw_ne, Bool.true_or, Bool.or_true, Bool.not_true, Bool.false_and, Bool.false_or, Bool.or_false, Bool.and_false, beq_self_eq_true, mkOf_s, e_cls, isLst]
    exact st18 hp hx (by omega) (by omega) h0 h1 h2 h3 (by omega) (by omega) rfl hw.1 hw.2
  · rintro z ws env ⟨j, l6, rfl, h⟩
    simp only [fit_s (i := d - 1) (by omega) (by omega), ↓kk, ↓tk, ↓thk, ↓w_cons, ↓w_nil, ↓w_ret, ↓w_asg, ↓w_iff, ↓w_expr, ↓w_aug, ↓w_for, ↓w_whl, ↓w_mut, ↓w_seti, ↓w_setf, ↓w_pass, ↓w_brk, ↓w_cont, ↓w_mut1, ↓v_cal, ↓v_pv, ↓v_bi, ↓v_un, ↓v_ds, ↓v_not, ↓v_or, ↓v_and, ↓v_ife, ↓v_mtv, ↓v_var, ↓v_cab, ↓v_sup, ↓v_mtb, ↓v_mak, ↓v_lcp, ↓v_cons, ↓v_nil, ↓p_bi, ↓p_un, ↓p_peek, ↓p_cst, ↓p_glb, ↓p_or, ↓p_and, ↓p_not, ↓p_ife, ↓a_var, ↓a_tup, ↓a_nil, ↓a_cons, ↓k_mul, ↓k_fdiv, ↓k_mod, ↓k_dtup, ↓k_dlst, ↓kE_mul, ↓k_lcat, ↓k_rng1, ↓k_rng2, ↓k_app, ↓tw_t, ↓tw_f, ↓if2_t, ↓if2_f, ↓one_eq, ↓mkd_eq, ↓th_next, ↓th_ret, ↓th_brk, ↓th_cont, a_var, a_tup, a_nil, a_cons, k_mul, k_fdiv, k_mod, k_dtup, k_dlst, kE_mul, k_lcat, k_rng1, k_rng2, k_app, tw_t, tw_f, if2_t, if2_f, one_eq, mkd_eq, th_next, th_ret, th_brk, th_cont, k_some, q_eq, e_add, e_sub, e_lt, e_le, e_gt, e_ge, e_eq, e_ne, e_neg, e_max, e_min, e_int, e_bitl, e_lenl, e_lent, e_id0, e_id1, eE_add, eE_sub, eE_eq, eE_ne, eE_gt, eE_max, eE_ll, eE_id0, e_seq, pa_rt, up_rt, sb_rt, get_z, get_s, W.isF, isFs, Bool.and_true, Bool.true_and, Bool.not_false, W.frz, frzs, true_implies, reduceCtorEq, false_implies, and_true, true_and, List.map, List.replicate, List.cons_append, List.nil_append, List.set, List.length, lent_0, tw_dec, tw_eq, tw_ne, Bool.true_or, Bool.or_true, Bool.not_true, Bool.false_and, Bool.false_or, Bool.or_false, Bool.and_false, beq_self_eq_true, mkOf_s, e_cls, isLst]
    refine ⟨by omega, by omega, by omega, j + 1, some z, rfl, ?_⟩
    simp only [List.length_cons] at h
    omega
theorem in1 : t.tab.init 1 = some 7 := rfl
theorem in2 : t.tab.init 2 = some 9 := rfl
theorem in4 : t.tab.init 4 = some 13 := rfl
theorem in5 : t.tab.init 5 = some 15 := rfl
theorem in6 : t.tab.init 6 = some 17 := rfl
theorem in9 : t.tab.init 9 = some 23 := rfl
theorem in11 : t.tab.init 11 = some 27 := rfl
theorem in12 : t.tab.init 12 = some 28 := rfl
theorem in13 : t.tab.init 13 = some 30 := rfl
theorem in14 : t.tab.init 14 = some 32 := rfl
theorem in18 : t.tab.init 18 = some 39 := rfl
theorem me4 : t.tab.meth 4 11 = some 14 := rfl
theorem me6 : t.tab.meth 6 11 = some 14 := rfl
theorem me14 : t.tab.meth 14 11 = some 14 := rfl
theorem t_ind {d g : Int} {k : Nat} : Tells (k + 1) o5 (B d g) (d + 1) := ⟨rfl, rfl, 5, 16, rfl, rfl, r_ind⟩
theorem t_cut {d g : Int} {k : Nat} : Tells (k + 1) o13 (B d g) (d + 1) := ⟨rfl, rfl, 13, 31, rfl, rfl, r_cut⟩
theorem t_match {d g : Int} {k : Nat} (h0 : 1 ≤ d) (h1 : d ≤ 186) : Tells (k + 1) o17 (B d g) (2 * d * (d + 1)) := ⟨rfl, rfl, 17, 38, rfl, rfl, r_match h0 h1⟩
theorem t_rulers {d g : Int} {k : Nat} : Tells (k + 2) o9 (B d g) (dig g) := ⟨rfl, rfl, 9, 24, rfl, rfl, r_rulers⟩
theorem t_clust {d g : Int} {k : Nat} : Tells (k + 2) o10 (B d g) (dig g) := ⟨rfl, rfl, 10, 26, rfl, rfl, r_clusters⟩
theorem st12 {l13 l14 l15 : Option W} (hp : Plt f p) (hx : 0 < xs.length ∧ xs.length ≤ 1000) (hi0 : 0 ≤ i) (hi1 : i ≤ 900) (h0 : 1 ≤ d) (h1 : d ≤ 6) (h2 : 1 ≤ g) (h3 : g ≤ 4000) : Go k t54_12 [l0, some (pool xs i), some (.int d), some (B d g), l4, l5, l6, l7, l8, l9, l10, l11, l12, l13, l14, l15, l16, l17, l18, l19, l20, l21] := by
  have tc := t_colors (k := k + 12) hp (d := d) (g := g) (by omega) (by omega) (by omega) (by omega)
  have g1 : ∀ c, rn (k + 19) 14 [.ins false c [9, 10, 1] [o3, o5, tr], B d g] = some (.int (col p d g + (d + 1)), []) := fun c => r_then (k := k + 18) tc t_ind
  have g2 : ∀ c, rn (k + 19) 14 [.ins false c [9, 10, 1] [o3, o13, tr], B d g] = some (.int (col p d g + (d + 1)), []) := fun c => r_then (k := k + 18) tc t_cut
  simp only [Go, t54_12, c54_12, in4, in3, in5, in6, in13, in14, mk4a, mk4b, mk3, mk5, mk6, mk13, mk14, me4, me6, me14, g1, g2, beq_self_eq_true, ↓kk, ↓tk, ↓thk, ↓w_cons, ↓w_nil, ↓w_ret, ↓w_asg, ↓w_iff, ↓w_expr, ↓w_aug, ↓w_for, ↓w_whl, ↓w_mut, ↓w_seti, ↓w_setf, ↓w_pass, ↓w_brk, ↓w_cont, ↓w_mut1, ↓v_cal, ↓v_pv, ↓v_bi, ↓v_un, ↓v_ds, ↓v_not, ↓v_or, ↓v_and, ↓v_ife, ↓v_mtv, ↓v_var, ↓v_cab, ↓v_sup, ↓v_mtb, ↓v_mak, ↓v_lcp, ↓v_cons, ↓v_nil, ↓p_bi, ↓p_un, ↓p_peek, ↓p_cst, ↓p_glb, ↓p_or, ↓p_and, ↓p_not, ↓p_ife, ↓a_var, ↓a_tup, ↓a_nil, ↓a_cons, ↓k_mul, ↓k_fdiv, ↓k_mod, ↓k_dtup, ↓k_dlst, ↓kE_mul, ↓k_lcat, ↓k_rng1, ↓k_rng2, ↓k_app, ↓tw_t, ↓tw_f, ↓if2_t, ↓if2_f, ↓one_eq, ↓mkd_eq, ↓th_next, ↓th_ret, ↓th_brk, ↓th_cont, a_var, a_tup, a_nil, a_cons, k_mul, k_fdiv, k_mod, k_dtup, k_dlst, kE_mul, k_lcat, k_rng1, k_rng2, k_app, tw_t, tw_f, if2_t, if2_f, one_eq, mkd_eq, th_next, th_ret, th_brk, th_cont, k_some, q_eq, e_add, e_sub, e_lt, e_le, e_gt, e_ge, e_eq, e_ne, e_neg, e_max, e_min, e_int, e_bitl, e_lenl, e_lent, e_id0, e_id1, eE_add, eE_sub, eE_eq, eE_ne, eE_gt, eE_max, eE_ll, eE_id0, e_seq, pa_rt, up_rt, sb_rt, get_z, get_s, W.isF, isFs, Bool.and_true, Bool.true_and, Bool.not_false, W.frz, frzs, true_implies, reduceCtorEq, false_implies, and_true, true_and, List.map, List.replicate, List.cons_append, List.nil_append, List.set, List.length, lent_0, tw_dec, tw_eq, tw_ne, Bool.true_or, Bool.or_true, Bool.not_true, Bool.false_and, Bool.false_or, Bool.or_false, Bool.and_false, beq_self_eq_true, mkOf_s, e_cls, isLst]
  exact st13 hp hx hi0 hi1 h0 h1 h2 h3
/-- pairs of an algorithm and its rounds -/
def Due (k : Nat) (b : W) (w : W) : Prop := ∃ (a : W) (x : Int), w = .tup [a, .int x] ∧ Tells k a b x
theorem st11 {l13 l14 l15 : Option W} {ws : List W} (hp : Plt f p) (hx : 0 < xs.length ∧ xs.length ≤ 1000) (hi0 : 0 ≤ i) (hi1 : i ≤ 900) (h0 : 1 ≤ d) (h1 : d ≤ 6) (h2 : 1 ≤ g) (h3 : g ≤ 4000) (hw : ∀ w ∈ frzs ws, Due (k + 19) (B d g) w) : Go k t54_11 [l0, some (pool xs i), some (.int d), some (B d g), l4, l5, l6, l7, some (.lst true ws), l9, l10, l11, l12, l13, l14, l15, l16, l17, l18, l19, l20, l21] := by
  have hf := frzs_frz ws
  simp only [Go, t54_11, c54_11, hf, ↓kk, ↓tk, ↓thk, ↓w_cons, ↓w_nil, ↓w_ret, ↓w_asg, ↓w_iff, ↓w_expr, ↓w_aug, ↓w_for, ↓w_whl, ↓w_mut, ↓w_seti, ↓w_setf, ↓w_pass, ↓w_brk, ↓w_cont, ↓w_mut1, ↓v_cal, ↓v_pv, ↓v_bi, ↓v_un, ↓v_ds, ↓v_not, ↓v_or, ↓v_and, ↓v_ife, ↓v_mtv, ↓v_var, ↓v_cab, ↓v_sup, ↓v_mtb, ↓v_mak, ↓v_lcp, ↓v_cons, ↓v_nil, ↓p_bi, ↓p_un, ↓p_peek, ↓p_cst, ↓p_glb, ↓p_or, ↓p_and, ↓p_not, ↓p_ife, ↓a_var, ↓a_tup, ↓a_nil, ↓a_cons, ↓k_mul, ↓k_fdiv, ↓k_mod, ↓k_dtup, ↓k_dlst, ↓kE_mul, ↓k_lcat, ↓k_rng1, ↓k_rng2, ↓k_app, ↓tw_t, ↓tw_f, ↓if2_t, ↓if2_f, ↓one_eq, ↓mkd_eq, ↓th_next, ↓th_ret, ↓th_brk, ↓th_cont, a_var, a_tup, a_nil, a_cons, k_mul, k_fdiv, k_mod, k_dtup, k_dlst, kE_mul, k_lcat, k_rng1, k_rng2, k_app, tw_t, tw_f, if2_t, if2_f, one_eq, mkd_eq, th_next, th_ret, th_brk, th_cont, k_some, q_eq, e_add, e_sub, e_lt, e_le, e_gt, e_ge, e_eq, e_ne, e_neg, e_max, e_min, e_int, e_bitl, e_lenl, e_lent, e_id0, e_id1, eE_add, eE_sub, eE_eq, eE_ne, eE_gt, eE_max, eE_ll, eE_id0, e_seq, pa_rt, up_rt, sb_rt, get_z, get_s, W.isF, isFs, Bool.and_true, Bool.true_and, Bool.not_false, W.frz, frzs, true_implies, reduceCtorEq, false_implies, and_true, true_and, List.map, List.replicate, List.cons_append, List.nil_append, List.set, List.length, lent_0, tw_dec, tw_eq, tw_ne, Bool.true_or, Bool.or_true, Bool.not_true, Bool.false_and, Bool.false_or, Bool.or_false, Bool.and_false, beq_self_eq_true, mkOf_s, e_cls, isLst]
  refine ok_for (I := fun us env => ∃ (l11 l12 : Option W), env = [l0, some (pool xs i), some (.int d), some (B d g), l4, l5, l6, l7, some (.lst false (frzs ws)), l9, l10, l11, l12, l13, l14, l15, l16, l17, l18, l19, l20, l21] ∧ ∀ w ∈ us, Due (k + 19) (B d g) w) ?_ ?_ _ _ ⟨l11, l12, rfl, hw⟩
  · rintro env ⟨l11, l12, rfl, _⟩
    simp only [↓kk, ↓tk, ↓thk, ↓w_cons, ↓w_nil, ↓w_ret, ↓w_asg, ↓w_iff, ↓w_expr, ↓w_aug, ↓w_for, ↓w_whl, ↓w_mut, ↓w_seti, ↓w_setf, ↓w_pass, ↓w_brk, ↓w_cont, ↓w_mut1, ↓v_cal, ↓v_pv, ↓v_bi, ↓v_un, ↓v_ds, ↓v_not, ↓v_or, ↓v_and, ↓v_ife, ↓v_mtv, ↓v_var, ↓v_cab, ↓v_sup, ↓v_mtb, ↓v_mak, ↓v_lcp, ↓v_cons, ↓v_nil, ↓p_bi, ↓p_un, ↓p_peek, ↓p_cst, ↓p_glb, ↓p_or, ↓p_and, ↓p_not, ↓p_ife, ↓a_var, ↓a_tup, ↓a_nil, ↓a_cons, ↓k_mul, ↓k_fdiv, ↓k_mod, ↓k_dtup, ↓k_dlst, ↓kE_mul, ↓k_lcat, ↓k_rng1, ↓k_rng2, ↓k_app, ↓tw_t, ↓tw_f, ↓if2_t, ↓if2_f, ↓one_eq, ↓mkd_eq, ↓th_next, ↓th_ret, ↓th_brk, ↓th_cont, a_var, a_tup, a_nil, a_cons, k_mul, k_fdiv, k_mod, k_dtup, k_dlst, kE_mul, k_lcat, k_rng1, k_rng2, k_app, tw_t, tw_f, if2_t, if2_f, one_eq, mkd_eq, th_next, th_ret, th_brk, th_cont, k_some, q_eq, e_add, e_sub, e_lt, e_le, e_gt, e_ge, e_eq, e_ne, e_neg, e_max, e_min, e_int, e_bitl, e_lenl, e_lent, e_id0, e_id1, eE_add, eE_sub, eE_eq, eE_ne, eE_gt, eE_max, eE_ll, eE_id0, e_seq, pa_rt, up_rt, sb_rt, get_z, get_s, W.isF, isFs, Bool.and_true, Bool.true_and, Bool.not_false, W.frz, frzs, true_implies, reduceCtorEq, false_implies, and_true, true_and, List.map, List.replicate, List.cons_append, List.nil_append, List.set, List.length, lent_0, tw_dec, tw_eq, tw_ne, Bool.true_or, Bool.or_true, Bool.not_true, Bool.false_and, Bool.false_or, Bool.or_false, Bool.and_false, beq_self_eq_true, mkOf_s, e_cls, isLst]
    exact st12 hp hx (by omega) (by omega) h0 h1 h2 h3
  · rintro z us env ⟨l11, l12, rfl, h⟩
    obtain ⟨a, x, rfl, ht⟩ := h z List.mem_cons_self
    obtain ⟨c, f, hc, hm, hr⟩ := ht.cl
    simp only [ht.fr, ht.fz, hc, hm, hr, eq_i, beq_self_eq_true, ↓kk, ↓tk, ↓thk, ↓w_cons, ↓w_nil, ↓w_ret, ↓w_asg, ↓w_iff, ↓w_expr, ↓w_aug, ↓w_for, ↓w_whl, ↓w_mut, ↓w_seti, ↓w_setf, ↓w_pass, ↓w_brk, ↓w_cont, ↓w_mut1, ↓v_cal, ↓v_pv, ↓v_bi, ↓v_un, ↓v_ds, ↓v_not, ↓v_or, ↓v_and, ↓v_ife, ↓v_mtv, ↓v_var, ↓v_cab, ↓v_sup, ↓v_mtb, ↓v_mak, ↓v_lcp, ↓v_cons, ↓v_nil, ↓p_bi, ↓p_un, ↓p_peek, ↓p_cst, ↓p_glb, ↓p_or, ↓p_and, ↓p_not, ↓p_ife, ↓a_var, ↓a_tup, ↓a_nil, ↓a_cons, ↓k_mul, ↓k_fdiv, ↓k_mod, ↓k_dtup, ↓k_dlst, ↓kE_mul, ↓k_lcat, ↓k_rng1, ↓k_rng2, ↓k_app, ↓tw_t, ↓tw_f, ↓if2_t, ↓if2_f, ↓one_eq, ↓mkd_eq, ↓th_next, ↓th_ret, ↓th_brk, ↓th_cont, a_var, a_tup, a_nil, a_cons, k_mul, k_fdiv, k_mod, k_dtup, k_dlst, kE_mul, k_lcat, k_rng1, k_rng2, k_app, tw_t, tw_f, if2_t, if2_f, one_eq, mkd_eq, th_next, th_ret, th_brk, th_cont, k_some, q_eq, e_add, e_sub, e_lt, e_le, e_gt, e_ge, e_eq, e_ne, e_neg, e_max, e_min, e_int, e_bitl, e_lenl, e_lent, e_id0, e_id1, eE_add, eE_sub, eE_eq, eE_ne, eE_gt, eE_max, eE_ll, eE_id0, e_seq, pa_rt, up_rt, sb_rt, get_z, get_s, W.isF, isFs, Bool.and_true, Bool.true_and, Bool.not_false, W.frz, frzs, true_implies, reduceCtorEq, false_implies, and_true, true_and, List.map, List.replicate, List.cons_append, List.nil_append, List.set, List.length, lent_0, tw_dec, tw_eq, tw_ne, Bool.true_or, Bool.or_true, Bool.not_true, Bool.false_and, Bool.false_or, Bool.or_false, Bool.and_false, beq_self_eq_true, mkOf_s, e_cls, isLst]
    exact ⟨by omega, by omega, _, _, rfl, fun w hw => h w (List.mem_cons_of_mem _ hw)⟩
theorem st7 {l13 l14 l15 : Option W} (hp : Plt f p) (hx : 0 < xs.length ∧ xs.length ≤ 1000) (hi0 : 0 ≤ i) (hi1 : i ≤ 800) (h0 : 1 ≤ d) (h1 : d ≤ 6) (h2 : 1 ≤ g) (h3 : g ≤ 4000) : Go k t54_7 [l0, some (pool xs i), some (.int d), some (B d g), some (il false (p d g)), some (.int (col p d g)), l6, l7, l8, l9, l10, l11, l12, l13, l14, l15, l16, l17, l18, l19, l20, l21] := by
  have hb : rn (k + 19) 53 [.int (g - 1)] = some (.int (dig g), []) := law_binary (k := k + 18) (by omega) (by omega)
  have tc := t_colors (k := k + 12) hp (d := d) (g := g) (by omega) (by omega) (by omega) (by omega)
  simp only [Go, t54_7, c54_7, in1, in3, in6, in14, in18, mk1, mk3, mk6, mk14, mk18, List.length_map, fit_s (i := 2) (by omega) (by omega), fit_s (i := d + 1) (by omega) (by omega), ↓kk, ↓tk, ↓thk, ↓w_cons, ↓w_nil, ↓w_ret, ↓w_asg, ↓w_iff, ↓w_expr, ↓w_aug, ↓w_for, ↓w_whl, ↓w_mut, ↓w_seti, ↓w_setf, ↓w_pass, ↓w_brk, ↓w_cont, ↓w_mut1, ↓v_cal, ↓v_pv, ↓v_bi, ↓v_un, ↓v_ds, ↓v_not, ↓v_or, ↓v_and, ↓v_ife, ↓v_mtv, ↓v_var, ↓v_cab, ↓v_sup, ↓v_mtb, ↓v_mak, ↓v_lcp, ↓v_cons, ↓v_nil, ↓p_bi, ↓p_un, ↓p_peek, ↓p_cst, ↓p_glb, ↓p_or, ↓p_and, ↓p_not, ↓p_ife, ↓a_var, ↓a_tup, ↓a_nil, ↓a_cons, ↓k_mul, ↓k_fdiv, ↓k_mod, ↓k_dtup, ↓k_dlst, ↓kE_mul, ↓k_lcat, ↓k_rng1, ↓k_rng2, ↓k_app, ↓tw_t, ↓tw_f, ↓if2_t, ↓if2_f, ↓one_eq, ↓mkd_eq, ↓th_next, ↓th_ret, ↓th_brk, ↓th_cont, a_var, a_tup, a_nil, a_cons, k_mul, k_fdiv, k_mod, k_dtup, k_dlst, kE_mul, k_lcat, k_rng1, k_rng2, k_app, tw_t, tw_f, if2_t, if2_f, one_eq, mkd_eq, th_next, th_ret, th_brk, th_cont, k_some, q_eq, e_add, e_sub, e_lt, e_le, e_gt, e_ge, e_eq, e_ne, e_neg, e_max, e_min, e_int, e_bitl, e_lenl, e_lent, e_id0, e_id1, eE_add, eE_sub, eE_eq, eE_ne, eE_gt, eE_max, eE_ll, eE_id0, e_seq, pa_rt, up_rt, sb_rt, get_z, get_s, W.isF, isFs, Bool.and_true, Bool.true_and, Bool.not_false, W.frz, frzs, true_implies, reduceCtorEq, false_implies, and_true, true_and, List.map, List.replicate, List.cons_append, List.nil_append, List.set, List.length, lent_0, tw_dec, tw_eq, tw_ne, Bool.true_or, Bool.or_true, Bool.not_true, Bool.false_and, Bool.false_or, Bool.or_false, Bool.and_false, beq_self_eq_true, mkOf_s, e_cls, isLst]
  refine ⟨by omega, by omega, by omega, by omega, by omega, by omega, by omega, ?_⟩
  simp only [t54_8, c54_8, hb, ↓kk, ↓tk, ↓thk, ↓w_cons, ↓w_nil, ↓w_ret, ↓w_asg, ↓w_iff, ↓w_expr, ↓w_aug, ↓w_for, ↓w_whl, ↓w_mut, ↓w_seti, ↓w_setf, ↓w_pass, ↓w_brk, ↓w_cont, ↓w_mut1, ↓v_cal, ↓v_pv, ↓v_bi, ↓v_un, ↓v_ds, ↓v_not, ↓v_or, ↓v_and, ↓v_ife, ↓v_mtv, ↓v_var, ↓v_cab, ↓v_sup, ↓v_mtb, ↓v_mak, ↓v_lcp, ↓v_cons, ↓v_nil, ↓p_bi, ↓p_un, ↓p_peek, ↓p_cst, ↓p_glb, ↓p_or, ↓p_and, ↓p_not, ↓p_ife, ↓a_var, ↓a_tup, ↓a_nil, ↓a_cons, ↓k_mul, ↓k_fdiv, ↓k_mod, ↓k_dtup, ↓k_dlst, ↓kE_mul, ↓k_lcat, ↓k_rng1, ↓k_rng2, ↓k_app, ↓tw_t, ↓tw_f, ↓if2_t, ↓if2_f, ↓one_eq, ↓mkd_eq, ↓th_next, ↓th_ret, ↓th_brk, ↓th_cont, a_var, a_tup, a_nil, a_cons, k_mul, k_fdiv, k_mod, k_dtup, k_dlst, kE_mul, k_lcat, k_rng1, k_rng2, k_app, tw_t, tw_f, if2_t, if2_f, one_eq, mkd_eq, th_next, th_ret, th_brk, th_cont, k_some, q_eq, e_add, e_sub, e_lt, e_le, e_gt, e_ge, e_eq, e_ne, e_neg, e_max, e_min, e_int, e_bitl, e_lenl, e_lent, e_id0, e_id1, eE_add, eE_sub, eE_eq, eE_ne, eE_gt, eE_max, eE_ll, eE_id0, e_seq, pa_rt, up_rt, sb_rt, get_z, get_s, W.isF, isFs, Bool.and_true, Bool.true_and, Bool.not_false, W.frz, frzs, true_implies, reduceCtorEq, false_implies, and_true, true_and, List.map, List.replicate, List.cons_append, List.nil_append, List.set, List.length, lent_0, tw_dec, tw_eq, tw_ne, Bool.true_or, Bool.or_true, Bool.not_true, Bool.false_and, Bool.false_or, Bool.or_false, Bool.and_false, beq_self_eq_true, mkOf_s, e_cls, isLst]
  refine ⟨by omega, ?_⟩
  simp only [t54_9, c54_9, ↓kk, ↓tk, ↓thk, ↓w_cons, ↓w_nil, ↓w_ret, ↓w_asg, ↓w_iff, ↓w_expr, ↓w_aug, ↓w_for, ↓w_whl, ↓w_mut, ↓w_seti, ↓w_setf, ↓w_pass, ↓w_brk, ↓w_cont, ↓w_mut1, ↓v_cal, ↓v_pv, ↓v_bi, ↓v_un, ↓v_ds, ↓v_not, ↓v_or, ↓v_and, ↓v_ife, ↓v_mtv, ↓v_var, ↓v_cab, ↓v_sup, ↓v_mtb, ↓v_mak, ↓v_lcp, ↓v_cons, ↓v_nil, ↓p_bi, ↓p_un, ↓p_peek, ↓p_cst, ↓p_glb, ↓p_or, ↓p_and, ↓p_not, ↓p_ife, ↓a_var, ↓a_tup, ↓a_nil, ↓a_cons, ↓k_mul, ↓k_fdiv, ↓k_mod, ↓k_dtup, ↓k_dlst, ↓kE_mul, ↓k_lcat, ↓k_rng1, ↓k_rng2, ↓k_app, ↓tw_t, ↓tw_f, ↓if2_t, ↓if2_f, ↓one_eq, ↓mkd_eq, ↓th_next, ↓th_ret, ↓th_brk, ↓th_cont, a_var, a_tup, a_nil, a_cons, k_mul, k_fdiv, k_mod, k_dtup, k_dlst, kE_mul, k_lcat, k_rng1, k_rng2, k_app, tw_t, tw_f, if2_t, if2_f, one_eq, mkd_eq, th_next, th_ret, th_brk, th_cont, k_some, q_eq, e_add, e_sub, e_lt, e_le, e_gt, e_ge, e_eq, e_ne, e_neg, e_max, e_min, e_int, e_bitl, e_lenl, e_lent, e_id0, e_id1, eE_add, eE_sub, eE_eq, eE_ne, eE_gt, eE_max, eE_ll, eE_id0, e_seq, pa_rt, up_rt, sb_rt, get_z, get_s, W.isF, isFs, Bool.and_true, Bool.true_and, Bool.not_false, W.frz, frzs, true_implies, reduceCtorEq, false_implies, and_true, true_and, List.map, List.replicate, List.cons_append, List.nil_append, List.set, List.length, lent_0, tw_dec, tw_eq, tw_ne, Bool.true_or, Bool.or_true, Bool.not_true, Bool.false_and, Bool.false_or, Bool.or_false, Bool.and_false, beq_self_eq_true, mkOf_s, e_cls, isLst]
  refine draw_ok (k := k + 18) hx (by omega) (by omega) (by omega) fun m hm0 hm1 => ?_
  simp only [t54_10, c54_10, in2, in9, in11, in12, in19, mk2, mk9, mk11, mk12, mk19, fit_s (i := 2) (by omega) (by omega), fit_s (i := 4) (by omega) (by omega), ↓kk, ↓tk, ↓thk, ↓w_cons, ↓w_nil, ↓w_ret, ↓w_asg, ↓w_iff, ↓w_expr, ↓w_aug, ↓w_for, ↓w_whl, ↓w_mut, ↓w_seti, ↓w_setf, ↓w_pass, ↓w_brk, ↓w_cont, ↓w_mut1, ↓v_cal, ↓v_pv, ↓v_bi, ↓v_un, ↓v_ds, ↓v_not, ↓v_or, ↓v_and, ↓v_ife, ↓v_mtv, ↓v_var, ↓v_cab, ↓v_sup, ↓v_mtb, ↓v_mak, ↓v_lcp, ↓v_cons, ↓v_nil, ↓p_bi, ↓p_un, ↓p_peek, ↓p_cst, ↓p_glb, ↓p_or, ↓p_and, ↓p_not, ↓p_ife, ↓a_var, ↓a_tup, ↓a_nil, ↓a_cons, ↓k_mul, ↓k_fdiv, ↓k_mod, ↓k_dtup, ↓k_dlst, ↓kE_mul, ↓k_lcat, ↓k_rng1, ↓k_rng2, ↓k_app, ↓tw_t, ↓tw_f, ↓if2_t, ↓if2_f, ↓one_eq, ↓mkd_eq, ↓th_next, ↓th_ret, ↓th_brk, ↓th_cont, a_var, a_tup, a_nil, a_cons, k_mul, k_fdiv, k_mod, k_dtup, k_dlst, kE_mul, k_lcat, k_rng1, k_rng2, k_app, tw_t, tw_f, if2_t, if2_f, one_eq, mkd_eq, th_next, th_ret, th_brk, th_cont, k_some, q_eq, e_add, e_sub, e_lt, e_le, e_gt, e_ge, e_eq, e_ne, e_neg, e_max, e_min, e_int, e_bitl, e_lenl, e_lent, e_id0, e_id1, eE_add, eE_sub, eE_eq, eE_ne, eE_gt, eE_max, eE_ll, eE_id0, e_seq, pa_rt, up_rt, sb_rt, get_z, get_s, W.isF, isFs, Bool.and_true, Bool.true_and, Bool.not_false, W.frz, frzs, true_implies, reduceCtorEq, false_implies, and_true, true_and, List.map, List.replicate, List.cons_append, List.nil_append, List.set, List.length, lent_0, tw_dec, tw_eq, tw_ne, Bool.true_or, Bool.or_true, Bool.not_true, Bool.false_and, Bool.false_or, Bool.or_false, Bool.and_false, beq_self_eq_true, mkOf_s, e_cls, isLst]
  refine ⟨by omega, by decide, by decide, by decide, by decide, by decide, by decide, by decide, by omega, ?_⟩
  refine st11 hp hx (by omega) (by omega) h0 h1 h2 h3 ?_
  have d1 : Due (k + 19) (B d g) (.tup [.ins false 1 [1] [tr], .int ((p d g).length - 1)]) := ⟨_, _, rfl, rfl, rfl, 1, 8, rfl, rfl, r_shrink (k := k + 13) hp (by omega) (by omega) (by omega) (by omega)⟩
  have d2 : Due (k + 19) (B d g) (.tup [o3, .int (col p d g)]) := ⟨_, _, rfl, tc.up (by omega)⟩
  have d3 : Due (k + 19) (B d g) (.tup [.ins false 6 [9, 10, 1] [o3, o5, tr], .int (col p d g + d + 1)]) := ⟨_, _, rfl, rfl, rfl, 6, 14, rfl, rfl, by rw [Int.add_assoc]; exact r_then (k := k + 18) tc t_ind⟩
  have d4 : Due (k + 19) (B d g) (.tup [.ins false 14 [9, 10, 1] [o3, o13, tr], .int (col p d g + d + 1)]) := ⟨_, _, rfl, rfl, rfl, 14, 14, rfl, rfl, by rw [Int.add_assoc]; exact r_then (k := k + 18) tc t_cut⟩
  have d5 : Due (k + 19) (B d g) (.tup [.ins false 18 [9, 10, 1] [o3, o17, tr], .int (col p d g + 2 * d * (d + 1))]) := ⟨_, _, rfl, rfl, rfl, 18, 14, rfl, rfl, r_then (k := k + 18) tc (t_match (by omega) (by omega))⟩
  have d6 : Due (k + 19) (B d g) (.tup [o19, .int (2 * d)]) := ⟨_, _, rfl, t_cover (k := k + 18) (by omega) (by omega)⟩
  have d7 : Due (k + 19) (B d g) (.tup [o9, .int (dig g)]) := ⟨_, _, rfl, t_rulers (k := k + 17)⟩
  have d8 : Due (k + 19) (B d g) (.tup [.ins false 11 [9, 10, 1] [o9, o10, tr], .int (2 * dig g)]) := ⟨_, _, rfl, rfl, rfl, 11, 14, rfl, rfl, by rw [Int.two_mul]; exact r_then (k := k + 18) (t_rulers (k := k + 16)) (t_clust (k := k + 16))⟩
  have d9 : Due (k + 19) (B d g) (.tup [.ins false 12 [17, 1] [.ins false 11 [9, 10, 1] [o9, o10, tr], tr], .int (4 * dig g)]) := ⟨_, _, rfl, rfl, rfl, 12, 29, rfl, rfl, r_sums (k := k + 17)⟩
  have d10 : Due (k + 19) (B d g) (.tup [.ins false 2 [8, 1] [.int m, fa], .int (max 0 (m - d - 1))]) := ⟨_, _, rfl, rfl, rfl, 2, 10, rfl, rfl, r_fewer (k := k + 18)⟩
  intro w hw
  simp only [frzs, W.frz, List.mem_cons, List.not_mem_nil, or_false] at hw
  rcases hw with rfl | rfl | rfl | rfl | rfl | rfl | rfl | rfl | rfl | rfl
  · exact d1
  · exact d2
  · exact d3
  · exact d4
  · exact d5
  · exact d6
  · exact d7
  · exact d8
  · exact d9
  · exact d10
theorem st6 {l13 l14 l15 : Option W} (hs : Stp f u) (hp : Plt f p) (hx : 0 < xs.length ∧ xs.length ≤ 1000) (hi0 : 0 ≤ i) (hi1 : i ≤ 800) (h0 : 1 ≤ d) (h1 : d ≤ 6) (h2 : 1 ≤ g) (h3 : g ≤ 4000) : Go k t54_6 [l0, some (pool xs i), some (.int d), some (B d g), some (il false (p d g)), some (.int (col p d g)), l6, l7, l8, l9, l10, l11, l12, l13, l14, l15, l16, l17, l18, l19, l20, l21] := by
  obtain ⟨_, ⟨_, hall, hch, hlast, hlen2⟩⟩ := hp 0 d g (by omega) (by omega) (by omega) (by omega)
  simp only [Go, t54_6, c54_6, List.length_map, ↓kk, ↓tk, ↓thk, ↓w_cons, ↓w_nil, ↓w_ret, ↓w_asg, ↓w_iff, ↓w_expr, ↓w_aug, ↓w_for, ↓w_whl, ↓w_mut, ↓w_seti, ↓w_setf, ↓w_pass, ↓w_brk, ↓w_cont, ↓w_mut1, ↓v_cal, ↓v_pv, ↓v_bi, ↓v_un, ↓v_ds, ↓v_not, ↓v_or, ↓v_and, ↓v_ife, ↓v_mtv, ↓v_var, ↓v_cab, ↓v_sup, ↓v_mtb, ↓v_mak, ↓v_lcp, ↓v_cons, ↓v_nil, ↓p_bi, ↓p_un, ↓p_peek, ↓p_cst, ↓p_glb, ↓p_or, ↓p_and, ↓p_not, ↓p_ife, ↓a_var, ↓a_tup, ↓a_nil, ↓a_cons, ↓k_mul, ↓k_fdiv, ↓k_mod, ↓k_dtup, ↓k_dlst, ↓kE_mul, ↓k_lcat, ↓k_rng1, ↓k_rng2, ↓k_app, ↓tw_t, ↓tw_f, ↓if2_t, ↓if2_f, ↓one_eq, ↓mkd_eq, ↓th_next, ↓th_ret, ↓th_brk, ↓th_cont, a_var, a_tup, a_nil, a_cons, k_mul, k_fdiv, k_mod, k_dtup, k_dlst, kE_mul, k_lcat, k_rng1, k_rng2, k_app, tw_t, tw_f, if2_t, if2_f, one_eq, mkd_eq, th_next, th_ret, th_brk, th_cont, k_some, q_eq, e_add, e_sub, e_lt, e_le, e_gt, e_ge, e_eq, e_ne, e_neg, e_max, e_min, e_int, e_bitl, e_lenl, e_lent, e_id0, e_id1, eE_add, eE_sub, eE_eq, eE_ne, eE_gt, eE_max, eE_ll, eE_id0, e_seq, pa_rt, up_rt, sb_rt, get_z, get_s, W.isF, isFs, Bool.and_true, Bool.true_and, Bool.not_false, W.frz, frzs, true_implies, reduceCtorEq, false_implies, and_true, true_and, List.map, List.replicate, List.cons_append, List.nil_append, List.set, List.length, lent_0, tw_dec, tw_eq, tw_ne, Bool.true_or, Bool.or_true, Bool.not_true, Bool.false_and, Bool.false_or, Bool.or_false, Bool.and_false, beq_self_eq_true, mkOf_s, e_cls, isLst]
  refine ⟨by omega, ?_⟩
  refine ok_for (I := fun us env => ∃ (j : Nat) (l6 l7 : Option W), env = [l0, some (pool xs i), some (.int d), some (B d g), some (il false (p d g)), some (.int (col p d g)), l6, l7, l8, l9, l10, l11, l12, l13, l14, l15, l16, l17, l18, l19, l20, l21] ∧ ∀ w ∈ us, ∃ j : Nat, w = .int (0 + (j : Int)) ∧ j < (p d g).length) ?_ ?_ _ _ ⟨0, l6, l7, rfl, fun w hw => ?_⟩
  · rintro env ⟨_, l6, l7, rfl, _⟩
    simp only [↓kk, ↓tk, ↓thk, ↓w_cons, ↓w_nil, ↓w_ret, ↓w_asg, ↓w_iff, ↓w_expr, ↓w_aug, ↓w_for, ↓w_whl, ↓w_mut, ↓w_seti, ↓w_setf, ↓w_pass, ↓w_brk, ↓w_cont, ↓w_mut1, ↓v_cal, ↓v_pv, ↓v_bi, ↓v_un, ↓v_ds, ↓v_not, ↓v_or, ↓v_and, ↓v_ife, ↓v_mtv, ↓v_var, ↓v_cab, ↓v_sup, ↓v_mtb, ↓v_mak, ↓v_lcp, ↓v_cons, ↓v_nil, ↓p_bi, ↓p_un, ↓p_peek, ↓p_cst, ↓p_glb, ↓p_or, ↓p_and, ↓p_not, ↓p_ife, ↓a_var, ↓a_tup, ↓a_nil, ↓a_cons, ↓k_mul, ↓k_fdiv, ↓k_mod, ↓k_dtup, ↓k_dlst, ↓kE_mul, ↓k_lcat, ↓k_rng1, ↓k_rng2, ↓k_app, ↓tw_t, ↓tw_f, ↓if2_t, ↓if2_f, ↓one_eq, ↓mkd_eq, ↓th_next, ↓th_ret, ↓th_brk, ↓th_cont, a_var, a_tup, a_nil, a_cons, k_mul, k_fdiv, k_mod, k_dtup, k_dlst, kE_mul, k_lcat, k_rng1, k_rng2, k_app, tw_t, tw_f, if2_t, if2_f, one_eq, mkd_eq, th_next, th_ret, th_brk, th_cont, k_some, q_eq, e_add, e_sub, e_lt, e_le, e_gt, e_ge, e_eq, e_ne, e_neg, e_max, e_min, e_int, e_bitl, e_lenl, e_lent, e_id0, e_id1, eE_add, eE_sub, eE_eq, eE_ne, eE_gt, eE_max, eE_ll, eE_id0, e_seq, pa_rt, up_rt, sb_rt, get_z, get_s, W.isF, isFs, Bool.and_true, Bool.true_and, Bool.not_false, W.frz, frzs, true_implies, reduceCtorEq, false_implies, and_true, true_and, List.map, List.replicate, List.cons_append, List.nil_append, List.set, List.length, lent_0, tw_dec, tw_eq, tw_ne, Bool.true_or, Bool.or_true, Bool.not_true, Bool.false_and, Bool.false_or, Bool.or_false, Bool.and_false, beq_self_eq_true, mkOf_s, e_cls, isLst]
    exact st7 hp hx hi0 hi1 h0 h1 h2 h3
  · rintro z us env ⟨_, l6, l7, rfl, h⟩
    obtain ⟨j, rfl, hj⟩ := h z List.mem_cons_self
    have h' : ∀ w ∈ us, ∃ j : Nat, w = .int (0 + (j : Int)) ∧ j < (p d g).length := fun w hw => h w (List.mem_cons_of_mem _ hw)
    have i1 : ∀ {Q : W → Prop}, Ok (opF .idx [.lst false ((p d g).map W.int), .int (0 + (j : Int))]) Q ↔ Q (.int ((p d g).getD j 0)) := by
      intro Q
      have := @o_ixl false (p d g) (0 + (j : Int)) Q (by omega) (by omega)
      rw [show (0 + (j : Int)).toNat = j by omega] at this
      exact this
    have hm : (p d g).getD j 0 ∈ p d g := by
      rw [List.getD_eq_getElem?_getD, List.getElem?_eq_getElem hj]
      exact List.getElem_mem hj
    have hb := hall _ hm
    obtain ⟨e1, q1, q2⟩ := hs (k + 15) d ((p d g).getD j 0) (by omega) (by omega) hb.1 hb.2
    have hfit := fit_s (i := f d ((p d g).getD j 0)) (by omega) (by omega)
    by_cases hlt : j + 1 < (p d g).length
    · have i2 : ∀ {Q : W → Prop}, Ok (opF .idx [.lst false ((p d g).map W.int), .int (0 + (j : Int) + 1)]) Q ↔ Q (.int ((p d g).getD (j + 1) 0)) := by
        intro Q
        have := @o_ixl false (p d g) (0 + (j : Int) + 1) Q (by omega) (by omega)
        rw [show (0 + (j : Int) + 1).toNat = j + 1 by omega] at this
        exact this
      have d1 : decide (0 + (j : Int) + 1 < (p d g).length) = true := decide_eq_true (by omega)
      have d2 : (0 + (j : Int) + 1 == (p d g).length) = false := beq_eq_false_iff_ne.mpr (by omega)
      have d3 : ((p d g).getD (j + 1) 0 == f d ((p d g).getD j 0) * f d ((p d g).getD j 0)) = true := beq_iff_eq.mpr (hch j hlt).1
      simp only [eqo i1, eqo i2, e1, d1, d2, d3, hfit, List.length_map, ↓kk, ↓tk, ↓thk, ↓w_cons, ↓w_nil, ↓w_ret, ↓w_asg, ↓w_iff, ↓w_expr, ↓w_aug, ↓w_for, ↓w_whl, ↓w_mut, ↓w_seti, ↓w_setf, ↓w_pass, ↓w_brk, ↓w_cont, ↓w_mut1, ↓v_cal, ↓v_pv, ↓v_bi, ↓v_un, ↓v_ds, ↓v_not, ↓v_or, ↓v_and, ↓v_ife, ↓v_mtv, ↓v_var, ↓v_cab, ↓v_sup, ↓v_mtb, ↓v_mak, ↓v_lcp, ↓v_cons, ↓v_nil, ↓p_bi, ↓p_un, ↓p_peek, ↓p_cst, ↓p_glb, ↓p_or, ↓p_and, ↓p_not, ↓p_ife, ↓a_var, ↓a_tup, ↓a_nil, ↓a_cons, ↓k_mul, ↓k_fdiv, ↓k_mod, ↓k_dtup, ↓k_dlst, ↓kE_mul, ↓k_lcat, ↓k_rng1, ↓k_rng2, ↓k_app, ↓tw_t, ↓tw_f, ↓if2_t, ↓if2_f, ↓one_eq, ↓mkd_eq, ↓th_next, ↓th_ret, ↓th_brk, ↓th_cont, a_var, a_tup, a_nil, a_cons, k_mul, k_fdiv, k_mod, k_dtup, k_dlst, kE_mul, k_lcat, k_rng1, k_rng2, k_app, tw_t, tw_f, if2_t, if2_f, one_eq, mkd_eq, th_next, th_ret, th_brk, th_cont, k_some, q_eq, e_add, e_sub, e_lt, e_le, e_gt, e_ge, e_eq, e_ne, e_neg, e_max, e_min, e_int, e_bitl, e_lenl, e_lent, e_id0, e_id1, eE_add, eE_sub, eE_eq, eE_ne, eE_gt, eE_max, eE_ll, eE_id0, e_seq, pa_rt, up_rt, sb_rt, get_z, get_s, W.isF, isFs, Bool.and_true, Bool.true_and, Bool.not_false, W.frz, frzs, true_implies, reduceCtorEq, false_implies, and_true, true_and, List.map, List.replicate, List.cons_append, List.nil_append, List.set, List.length, lent_0, tw_dec, tw_eq, tw_ne, Bool.true_or, Bool.or_true, Bool.not_true, Bool.false_and, Bool.false_or, Bool.or_false, Bool.and_false, beq_self_eq_true, mkOf_s, e_cls, isLst]
      exact ⟨by omega, by omega, 0, _, _, rfl, h'⟩
    · have d1 : decide (0 + (j : Int) + 1 < (p d g).length) = false := decide_eq_false (by omega)
      have d2 : (0 + (j : Int) + 1 == (p d g).length) = true := beq_iff_eq.mpr (by omega)
      have d3 : decide (f d ((p d g).getD j 0) * f d ((p d g).getD j 0) < (p d g).getD j 0) = false := decide_eq_false (by
        have := hlast j (by omega)
        omega)
      simp only [eqo i1, e1, d1, d2, d3, hfit, List.length_map, ↓kk, ↓tk, ↓thk, ↓w_cons, ↓w_nil, ↓w_ret, ↓w_asg, ↓w_iff, ↓w_expr, ↓w_aug, ↓w_for, ↓w_whl, ↓w_mut, ↓w_seti, ↓w_setf, ↓w_pass, ↓w_brk, ↓w_cont, ↓w_mut1, ↓v_cal, ↓v_pv, ↓v_bi, ↓v_un, ↓v_ds, ↓v_not, ↓v_or, ↓v_and, ↓v_ife, ↓v_mtv, ↓v_var, ↓v_cab, ↓v_sup, ↓v_mtb, ↓v_mak, ↓v_lcp, ↓v_cons, ↓v_nil, ↓p_bi, ↓p_un, ↓p_peek, ↓p_cst, ↓p_glb, ↓p_or, ↓p_and, ↓p_not, ↓p_ife, ↓a_var, ↓a_tup, ↓a_nil, ↓a_cons, ↓k_mul, ↓k_fdiv, ↓k_mod, ↓k_dtup, ↓k_dlst, ↓kE_mul, ↓k_lcat, ↓k_rng1, ↓k_rng2, ↓k_app, ↓tw_t, ↓tw_f, ↓if2_t, ↓if2_f, ↓one_eq, ↓mkd_eq, ↓th_next, ↓th_ret, ↓th_brk, ↓th_cont, a_var, a_tup, a_nil, a_cons, k_mul, k_fdiv, k_mod, k_dtup, k_dlst, kE_mul, k_lcat, k_rng1, k_rng2, k_app, tw_t, tw_f, if2_t, if2_f, one_eq, mkd_eq, th_next, th_ret, th_brk, th_cont, k_some, q_eq, e_add, e_sub, e_lt, e_le, e_gt, e_ge, e_eq, e_ne, e_neg, e_max, e_min, e_int, e_bitl, e_lenl, e_lent, e_id0, e_id1, eE_add, eE_sub, eE_eq, eE_ne, eE_gt, eE_max, eE_ll, eE_id0, e_seq, pa_rt, up_rt, sb_rt, get_z, get_s, W.isF, isFs, Bool.and_true, Bool.true_and, Bool.not_false, W.frz, frzs, true_implies, reduceCtorEq, false_implies, and_true, true_and, List.map, List.replicate, List.cons_append, List.nil_append, List.set, List.length, lent_0, tw_dec, tw_eq, tw_ne, Bool.true_or, Bool.or_true, Bool.not_true, Bool.false_and, Bool.false_or, Bool.or_false, Bool.and_false, beq_self_eq_true, mkOf_s, e_cls, isLst]
      exact ⟨by omega, by omega, 0, _, _, rfl, h'⟩
  · obtain ⟨j, hj, rfl⟩ := List.mem_map.mp hw
    have hj2 := List.mem_range.mp hj
    exact ⟨j, rfl, by omega⟩
theorem st5 {l13 l14 l15 : Option W} (hs : Stp f u) (hp : Plt f p) (hx : 0 < xs.length ∧ xs.length ≤ 1000) (hi0 : 0 ≤ i) (hi1 : i ≤ 800) (h0 : 1 ≤ d) (h1 : d ≤ 6) (h2 : 1 ≤ g) (h3 : g ≤ 4000) : Go k t54_5 [l0, some (pool xs i), some (.int d), some (B d g), some (il false (p d g)), some (.int (col p d g)), none, l7, l8, l9, l10, l11, l12, l13, l14, l15, l16, l17, l18, l19, l20, l21] := by
  obtain ⟨_, ⟨⟨r, hr⟩, hall, hch, hlast, hlen2⟩⟩ := hp 0 d g (by omega) (by omega) (by omega) (by omega)
  have hlen : 1 ≤ (p d g).length := by
    rw [hr]
    simp
  have q0 : (p d g).getD 0 0 = g := by
    rw [hr]
    rfl
  have h00 : ∀ {Q : W → Prop}, Ok (opF .idx [.lst false ((p d g).map W.int), .int 0]) Q ↔ Q (.int g) := by
    intro Q
    have := @o_ixl false (p d g) 0 Q (by omega) (by omega)
    rw [show (p d g).getD (0 : Int).toNat 0 = g from q0] at this
    exact this
  simp only [Go, t54_5, c54_5, eqo h00, List.length_map, wipeE, ↓kk, ↓tk, ↓thk, ↓w_cons, ↓w_nil, ↓w_ret, ↓w_asg, ↓w_iff, ↓w_expr, ↓w_aug, ↓w_for, ↓w_whl, ↓w_mut, ↓w_seti, ↓w_setf, ↓w_pass, ↓w_brk, ↓w_cont, ↓w_mut1, ↓v_cal, ↓v_pv, ↓v_bi, ↓v_un, ↓v_ds, ↓v_not, ↓v_or, ↓v_and, ↓v_ife, ↓v_mtv, ↓v_var, ↓v_cab, ↓v_sup, ↓v_mtb, ↓v_mak, ↓v_lcp, ↓v_cons, ↓v_nil, ↓p_bi, ↓p_un, ↓p_peek, ↓p_cst, ↓p_glb, ↓p_or, ↓p_and, ↓p_not, ↓p_ife, ↓a_var, ↓a_tup, ↓a_nil, ↓a_cons, ↓k_mul, ↓k_fdiv, ↓k_mod, ↓k_dtup, ↓k_dlst, ↓kE_mul, ↓k_lcat, ↓k_rng1, ↓k_rng2, ↓k_app, ↓tw_t, ↓tw_f, ↓if2_t, ↓if2_f, ↓one_eq, ↓mkd_eq, ↓th_next, ↓th_ret, ↓th_brk, ↓th_cont, a_var, a_tup, a_nil, a_cons, k_mul, k_fdiv, k_mod, k_dtup, k_dlst, kE_mul, k_lcat, k_rng1, k_rng2, k_app, tw_t, tw_f, if2_t, if2_f, one_eq, mkd_eq, th_next, th_ret, th_brk, th_cont, k_some, q_eq, e_add, e_sub, e_lt, e_le, e_gt, e_ge, e_eq, e_ne, e_neg, e_max, e_min, e_int, e_bitl, e_lenl, e_lent, e_id0, e_id1, eE_add, eE_sub, eE_eq, eE_ne, eE_gt, eE_max, eE_ll, eE_id0, e_seq, pa_rt, up_rt, sb_rt, get_z, get_s, W.isF, isFs, Bool.and_true, Bool.true_and, Bool.not_false, W.frz, frzs, true_implies, reduceCtorEq, false_implies, and_true, true_and, List.map, List.replicate, List.cons_append, List.nil_append, List.set, List.length, lent_0, tw_dec, tw_eq, tw_ne, Bool.true_or, Bool.or_true, Bool.not_true, Bool.false_and, Bool.false_or, Bool.or_false, Bool.and_false, beq_self_eq_true, mkOf_s, e_cls, isLst]
  refine ⟨by omega, by simp only [List.length_range]; omega, ?_⟩
  refine (comp_none (I := fun env => ∃ l6, env = [l0, some (pool xs i), some (.int d), some (B d g), some (il false (p d g)), some (.int (col p d g)), l6, l7, l8, l9, l10, l11, l12, l13, l14, l15, l16, l17, l18, l19, l20, l21]) _ _ _ ?_ ⟨none, rfl⟩).mono fun q ⟨hq1, l6, hq2⟩ => ?_
  · rintro x hx' env ⟨l6, rfl⟩
    obtain ⟨j, hj, rfl⟩ := List.mem_map.mp hx'
    have hj2 := List.mem_range.mp hj
    have c1 := hch j (by omega)
    have i1 : ∀ {Q : W → Prop}, Ok (opF .idx [.lst false ((p d g).map W.int), .int (1 + (j : Int))]) Q ↔ Q (.int ((p d g).getD (j + 1) 0)) := by
      intro Q
      have := @o_ixl false (p d g) (1 + (j : Int)) Q (by omega) (by omega)
      rw [show (1 + (j : Int)).toNat = j + 1 by omega] at this
      exact this
    have i2 : ∀ {Q : W → Prop}, Ok (opF .idx [.lst false ((p d g).map W.int), .int (1 + (j : Int) - 1)]) Q ↔ Q (.int ((p d g).getD j 0)) := by
      intro Q
      have := @o_ixl false (p d g) (1 + (j : Int) - 1) Q (by omega) (by omega)
      rw [show (1 + (j : Int) - 1).toNat = j by omega] at this
      exact this
    have hd : decide ((p d g).getD j 0 ≤ (p d g).getD (j + 1) 0) = false := decide_eq_false (by omega)
    simp only [eqo i1, eqo i2, hd, wipeE, ↓kk, ↓tk, ↓thk, ↓w_cons, ↓w_nil, ↓w_ret, ↓w_asg, ↓w_iff, ↓w_expr, ↓w_aug, ↓w_for, ↓w_whl, ↓w_mut, ↓w_seti, ↓w_setf, ↓w_pass, ↓w_brk, ↓w_cont, ↓w_mut1, ↓v_cal, ↓v_pv, ↓v_bi, ↓v_un, ↓v_ds, ↓v_not, ↓v_or, ↓v_and, ↓v_ife, ↓v_mtv, ↓v_var, ↓v_cab, ↓v_sup, ↓v_mtb, ↓v_mak, ↓v_lcp, ↓v_cons, ↓v_nil, ↓p_bi, ↓p_un, ↓p_peek, ↓p_cst, ↓p_glb, ↓p_or, ↓p_and, ↓p_not, ↓p_ife, ↓a_var, ↓a_tup, ↓a_nil, ↓a_cons, ↓k_mul, ↓k_fdiv, ↓k_mod, ↓k_dtup, ↓k_dlst, ↓kE_mul, ↓k_lcat, ↓k_rng1, ↓k_rng2, ↓k_app, ↓tw_t, ↓tw_f, ↓if2_t, ↓if2_f, ↓one_eq, ↓mkd_eq, ↓th_next, ↓th_ret, ↓th_brk, ↓th_cont, a_var, a_tup, a_nil, a_cons, k_mul, k_fdiv, k_mod, k_dtup, k_dlst, kE_mul, k_lcat, k_rng1, k_rng2, k_app, tw_t, tw_f, if2_t, if2_f, one_eq, mkd_eq, th_next, th_ret, th_brk, th_cont, k_some, q_eq, e_add, e_sub, e_lt, e_le, e_gt, e_ge, e_eq, e_ne, e_neg, e_max, e_min, e_int, e_bitl, e_lenl, e_lent, e_id0, e_id1, eE_add, eE_sub, eE_eq, eE_ne, eE_gt, eE_max, eE_ll, eE_id0, e_seq, pa_rt, up_rt, sb_rt, get_z, get_s, W.isF, isFs, Bool.and_true, Bool.true_and, Bool.not_false, W.frz, frzs, true_implies, reduceCtorEq, false_implies, and_true, true_and, List.map, List.replicate, List.cons_append, List.nil_append, List.set, List.length, lent_0, tw_dec, tw_eq, tw_ne, Bool.true_or, Bool.or_true, Bool.not_true, Bool.false_and, Bool.false_or, Bool.or_false, Bool.and_false, beq_self_eq_true, mkOf_s, e_cls, isLst]
    exact ⟨by omega, _, rfl⟩
  · obtain ⟨q1, q2⟩ := q
    have hq1 : q1 = [] := hq1
    have hq2 : q2 = _ := hq2
    subst hq1
    subst hq2
    simp only [backE, keepF, get_n, Int.lt_irrefl, decide_false, ↓kk, ↓tk, ↓thk, ↓w_cons, ↓w_nil, ↓w_ret, ↓w_asg, ↓w_iff, ↓w_expr, ↓w_aug, ↓w_for, ↓w_whl, ↓w_mut, ↓w_seti, ↓w_setf, ↓w_pass, ↓w_brk, ↓w_cont, ↓w_mut1, ↓v_cal, ↓v_pv, ↓v_bi, ↓v_un, ↓v_ds, ↓v_not, ↓v_or, ↓v_and, ↓v_ife, ↓v_mtv, ↓v_var, ↓v_cab, ↓v_sup, ↓v_mtb, ↓v_mak, ↓v_lcp, ↓v_cons, ↓v_nil, ↓p_bi, ↓p_un, ↓p_peek, ↓p_cst, ↓p_glb, ↓p_or, ↓p_and, ↓p_not, ↓p_ife, ↓a_var, ↓a_tup, ↓a_nil, ↓a_cons, ↓k_mul, ↓k_fdiv, ↓k_mod, ↓k_dtup, ↓k_dlst, ↓kE_mul, ↓k_lcat, ↓k_rng1, ↓k_rng2, ↓k_app, ↓tw_t, ↓tw_f, ↓if2_t, ↓if2_f, ↓one_eq, ↓mkd_eq, ↓th_next, ↓th_ret, ↓th_brk, ↓th_cont, a_var, a_tup, a_nil, a_cons, k_mul, k_fdiv, k_mod, k_dtup, k_dlst, kE_mul, k_lcat, k_rng1, k_rng2, k_app, tw_t, tw_f, if2_t, if2_f, one_eq, mkd_eq, th_next, th_ret, th_brk, th_cont, k_some, q_eq, e_add, e_sub, e_lt, e_le, e_gt, e_ge, e_eq, e_ne, e_neg, e_max, e_min, e_int, e_bitl, e_lenl, e_lent, e_id0, e_id1, eE_add, eE_sub, eE_eq, eE_ne, eE_gt, eE_max, eE_ll, eE_id0, e_seq, pa_rt, up_rt, sb_rt, get_z, get_s, W.isF, isFs, Bool.and_true, Bool.true_and, Bool.not_false, W.frz, frzs, true_implies, reduceCtorEq, false_implies, and_true, true_and, List.map, List.replicate, List.cons_append, List.nil_append, List.set, List.length, lent_0, tw_dec, tw_eq, tw_ne, Bool.true_or, Bool.or_true, Bool.not_true, Bool.false_and, Bool.false_or, Bool.or_false, Bool.and_false, beq_self_eq_true, mkOf_s, e_cls, isLst]
    exact ⟨fun z => absurd z (by decide), fun _ => st6 hs hp hx hi0 hi1 h0 h1 h2 h3⟩
theorem st3 {l13 l14 l15 : Option W} (hs : Stp f u) (hp : Plt f p) (hx : 0 < xs.length ∧ xs.length ≤ 1000) (hi0 : 0 ≤ i) (hi1 : i ≤ 800) (h0 : 1 ≤ d) (h1 : d ≤ 6) (h2 : 1 ≤ g) (h3 : g ≤ 4000) : Go k t54_3 [l0, some (pool xs i), some (.int d), some (B d g), l4, l5, none, l7, l8, l9, l10, l11, l12, l13, l14, l15, l16, l17, l18, l19, l20, l21] := by
  obtain ⟨e, ⟨⟨r, hr⟩, _⟩⟩ := hp (k + 14) d g (by omega) (by omega) (by omega) (by omega)
  obtain ⟨ys, hy⟩ := cons_last hr
  have hl : ∀ {Q : W → Prop}, Ok (opF .idx [.lst false ((p d g).map W.int), .int (-1)]) Q ↔ Q (.int ((p d g).getLastD 0)) := by
    intro Q
    have := @o_last false ys ((p d g).getLastD 0) Q
    rw [← hy] at this
    exact this
  simp only [Go, t54_3, c54_3, t54_4, c54_4, e, eqo hl, List.length_map, ↓kk, ↓tk, ↓thk, ↓w_cons, ↓w_nil, ↓w_ret, ↓w_asg, ↓w_iff, ↓w_expr, ↓w_aug, ↓w_for, ↓w_whl, ↓w_mut, ↓w_seti, ↓w_setf, ↓w_pass, ↓w_brk, ↓w_cont, ↓w_mut1, ↓v_cal, ↓v_pv, ↓v_bi, ↓v_un, ↓v_ds, ↓v_not, ↓v_or, ↓v_and, ↓v_ife, ↓v_mtv, ↓v_var, ↓v_cab, ↓v_sup, ↓v_mtb, ↓v_mak, ↓v_lcp, ↓v_cons, ↓v_nil, ↓p_bi, ↓p_un, ↓p_peek, ↓p_cst, ↓p_glb, ↓p_or, ↓p_and, ↓p_not, ↓p_ife, ↓a_var, ↓a_tup, ↓a_nil, ↓a_cons, ↓k_mul, ↓k_fdiv, ↓k_mod, ↓k_dtup, ↓k_dlst, ↓kE_mul, ↓k_lcat, ↓k_rng1, ↓k_rng2, ↓k_app, ↓tw_t, ↓tw_f, ↓if2_t, ↓if2_f, ↓one_eq, ↓mkd_eq, ↓th_next, ↓th_ret, ↓th_brk, ↓th_cont, a_var, a_tup, a_nil, a_cons, k_mul, k_fdiv, k_mod, k_dtup, k_dlst, kE_mul, k_lcat, k_rng1, k_rng2, k_app, tw_t, tw_f, if2_t, if2_f, one_eq, mkd_eq, th_next, th_ret, th_brk, th_cont, k_some, q_eq, e_add, e_sub, e_lt, e_le, e_gt, e_ge, e_eq, e_ne, e_neg, e_max, e_min, e_int, e_bitl, e_lenl, e_lent, e_id0, e_id1, eE_add, eE_sub, eE_eq, eE_ne, eE_gt, eE_max, eE_ll, eE_id0, e_seq, pa_rt, up_rt, sb_rt, get_z, get_s, W.isF, isFs, Bool.and_true, Bool.true_and, Bool.not_false, W.frz, frzs, true_implies, reduceCtorEq, false_implies, and_true, true_and, List.map, List.replicate, List.cons_append, List.nil_append, List.set, List.length, lent_0, tw_dec, tw_eq, tw_ne, Bool.true_or, Bool.or_true, Bool.not_true, Bool.false_and, Bool.false_or, Bool.or_false, Bool.and_false, beq_self_eq_true, mkOf_s, e_cls, isLst]
  refine ⟨by omega, by omega, ?_⟩
  exact st5 hs hp hx hi0 hi1 h0 h1 h2 h3
theorem law_ok (hs : Stp f u) (hp : Plt f p) {ns : List Int} : Ok (rn (k + 20) 54 [.scr ns]) fun r => r = (.bl true, []) := by
  refine ok_run (d := ⟨1, 0, 22, b54⟩) rfl rfl ?_
  refine Ok.mono (Q := QL) ?_ fun r ⟨env, hr⟩ => ?_
  · rw [cut54]
    simp only [t54_0, c54_0, ↓kk, ↓tk, ↓thk, ↓w_cons, ↓w_nil, ↓w_ret, ↓w_asg, ↓w_iff, ↓w_expr, ↓w_aug, ↓w_for, ↓w_whl, ↓w_mut, ↓w_seti, ↓w_setf, ↓w_pass, ↓w_brk, ↓w_cont, ↓w_mut1, ↓v_cal, ↓v_pv, ↓v_bi, ↓v_un, ↓v_ds, ↓v_not, ↓v_or, ↓v_and, ↓v_ife, ↓v_mtv, ↓v_var, ↓v_cab, ↓v_sup, ↓v_mtb, ↓v_mak, ↓v_lcp, ↓v_cons, ↓v_nil, ↓p_bi, ↓p_un, ↓p_peek, ↓p_cst, ↓p_glb, ↓p_or, ↓p_and, ↓p_not, ↓p_ife, ↓a_var, ↓a_tup, ↓a_nil, ↓a_cons, ↓k_mul, ↓k_fdiv, ↓k_mod, ↓k_dtup, ↓k_dlst, ↓kE_mul, ↓k_lcat, ↓k_rng1, ↓k_rng2, ↓k_app, ↓tw_t, ↓tw_f, ↓if2_t, ↓if2_f, ↓one_eq, ↓mkd_eq, ↓th_next, ↓th_ret, ↓th_brk, ↓th_cont, a_var, a_tup, a_nil, a_cons, k_mul, k_fdiv, k_mod, k_dtup, k_dlst, kE_mul, k_lcat, k_rng1, k_rng2, k_app, tw_t, tw_f, if2_t, if2_f, one_eq, mkd_eq, th_next, th_ret, th_brk, th_cont, k_some, q_eq, e_add, e_sub, e_lt, e_le, e_gt, e_ge, e_eq, e_ne, e_neg, e_max, e_min, e_int, e_bitl, e_lenl, e_lent, e_id0, e_id1, eE_add, eE_sub, eE_eq, eE_ne, eE_gt, eE_max, eE_ll, eE_id0, e_seq, pa_rt, up_rt, sb_rt, get_z, get_s, W.isF, isFs, Bool.and_true, Bool.true_and, Bool.not_false, W.frz, frzs, true_implies, reduceCtorEq, false_implies, and_true, true_and, List.map, List.replicate, List.cons_append, List.nil_append, List.set, List.length, lent_0, tw_dec, tw_eq, tw_ne, Bool.true_or, Bool.or_true, Bool.not_true, Bool.false_and, Bool.false_or, Bool.or_false, Bool.and_false, beq_self_eq_true, mkOf_s, e_cls, isLst]
    refine (law_pool (k := k + 17)).mono fun r ⟨xs, e, hx⟩ => ?_
    rw [e]
    simp only [t54_1, c54_1, ↓kk, ↓tk, ↓thk, ↓w_cons, ↓w_nil, ↓w_ret, ↓w_asg, ↓w_iff, ↓w_expr, ↓w_aug, ↓w_for, ↓w_whl, ↓w_mut, ↓w_seti, ↓w_setf, ↓w_pass, ↓w_brk, ↓w_cont, ↓w_mut1, ↓v_cal, ↓v_pv, ↓v_bi, ↓v_un, ↓v_ds, ↓v_not, ↓v_or, ↓v_and, ↓v_ife, ↓v_mtv, ↓v_var, ↓v_cab, ↓v_sup, ↓v_mtb, ↓v_mak, ↓v_lcp, ↓v_cons, ↓v_nil, ↓p_bi, ↓p_un, ↓p_peek, ↓p_cst, ↓p_glb, ↓p_or, ↓p_and, ↓p_not, ↓p_ife, ↓a_var, ↓a_tup, ↓a_nil, ↓a_cons, ↓k_mul, ↓k_fdiv, ↓k_mod, ↓k_dtup, ↓k_dlst, ↓kE_mul, ↓k_lcat, ↓k_rng1, ↓k_rng2, ↓k_app, ↓tw_t, ↓tw_f, ↓if2_t, ↓if2_f, ↓one_eq, ↓mkd_eq, ↓th_next, ↓th_ret, ↓th_brk, ↓th_cont, a_var, a_tup, a_nil, a_cons, k_mul, k_fdiv, k_mod, k_dtup, k_dlst, kE_mul, k_lcat, k_rng1, k_rng2, k_app, tw_t, tw_f, if2_t, if2_f, one_eq, mkd_eq, th_next, th_ret, th_brk, th_cont, k_some, q_eq, e_add, e_sub, e_lt, e_le, e_gt, e_ge, e_eq, e_ne, e_neg, e_max, e_min, e_int, e_bitl, e_lenl, e_lent, e_id0, e_id1, eE_add, eE_sub, eE_eq, eE_ne, eE_gt, eE_max, eE_ll, eE_id0, e_seq, pa_rt, up_rt, sb_rt, get_z, get_s, W.isF, isFs, Bool.and_true, Bool.true_and, Bool.not_false, W.frz, frzs, true_implies, reduceCtorEq, false_implies, and_true, true_and, List.map, List.replicate, List.cons_append, List.nil_append, List.set, List.length, lent_0, tw_dec, tw_eq, tw_ne, Bool.true_or, Bool.or_true, Bool.not_true, Bool.false_and, Bool.false_or, Bool.or_false, Bool.and_false, beq_self_eq_true, mkOf_s, e_cls, isLst]
    refine ⟨by omega, ?_⟩
    refine draw_ok (k := k + 18) hx (by omega) (by omega) (by omega) fun v1 hv0 hv1 => ?_
    obtain ⟨d, hd⟩ : ∃ d, d = 1 + v1 := ⟨_, rfl⟩
    simp only [↓kk, ↓tk, ↓thk, ↓w_cons, ↓w_nil, ↓w_ret, ↓w_asg, ↓w_iff, ↓w_expr, ↓w_aug, ↓w_for, ↓w_whl, ↓w_mut, ↓w_seti, ↓w_setf, ↓w_pass, ↓w_brk, ↓w_cont, ↓w_mut1, ↓v_cal, ↓v_pv, ↓v_bi, ↓v_un, ↓v_ds, ↓v_not, ↓v_or, ↓v_and, ↓v_ife, ↓v_mtv, ↓v_var, ↓v_cab, ↓v_sup, ↓v_mtb, ↓v_mak, ↓v_lcp, ↓v_cons, ↓v_nil, ↓p_bi, ↓p_un, ↓p_peek, ↓p_cst, ↓p_glb, ↓p_or, ↓p_and, ↓p_not, ↓p_ife, ↓a_var, ↓a_tup, ↓a_nil, ↓a_cons, ↓k_mul, ↓k_fdiv, ↓k_mod, ↓k_dtup, ↓k_dlst, ↓kE_mul, ↓k_lcat, ↓k_rng1, ↓k_rng2, ↓k_app, ↓tw_t, ↓tw_f, ↓if2_t, ↓if2_f, ↓one_eq, ↓mkd_eq, ↓th_next, ↓th_ret, ↓th_brk, ↓th_cont, a_var, a_tup, a_nil, a_cons, k_mul, k_fdiv, k_mod, k_dtup, k_dlst, kE_mul, k_lcat, k_rng1, k_rng2, k_app, tw_t, tw_f, if2_t, if2_f, one_eq, mkd_eq, th_next, th_ret, th_brk, th_cont, k_some, q_eq, e_add, e_sub, e_lt, e_le, e_gt, e_ge, e_eq, e_ne, e_neg, e_max, e_min, e_int, e_bitl, e_lenl, e_lent, e_id0, e_id1, eE_add, eE_sub, eE_eq, eE_ne, eE_gt, eE_max, eE_ll, eE_id0, e_seq, pa_rt, up_rt, sb_rt, get_z, get_s, W.isF, isFs, Bool.and_true, Bool.true_and, Bool.not_false, W.frz, frzs, true_implies, reduceCtorEq, false_implies, and_true, true_and, List.map, List.replicate, List.cons_append, List.nil_append, List.set, List.length, lent_0, tw_dec, tw_eq, tw_ne, Bool.true_or, Bool.or_true, Bool.not_true, Bool.false_and, Bool.false_or, Bool.or_false, Bool.and_false, beq_self_eq_true, mkOf_s, e_cls, isLst]
    rw [← hd]
    refine ⟨by omega, ?_⟩
    simp only [t54_2, c54_2, ↓kk, ↓tk, ↓thk, ↓w_cons, ↓w_nil, ↓w_ret, ↓w_asg, ↓w_iff, ↓w_expr, ↓w_aug, ↓w_for, ↓w_whl, ↓w_mut, ↓w_seti, ↓w_setf, ↓w_pass, ↓w_brk, ↓w_cont, ↓w_mut1, ↓v_cal, ↓v_pv, ↓v_bi, ↓v_un, ↓v_ds, ↓v_not, ↓v_or, ↓v_and, ↓v_ife, ↓v_mtv, ↓v_var, ↓v_cab, ↓v_sup, ↓v_mtb, ↓v_mak, ↓v_lcp, ↓v_cons, ↓v_nil, ↓p_bi, ↓p_un, ↓p_peek, ↓p_cst, ↓p_glb, ↓p_or, ↓p_and, ↓p_not, ↓p_ife, ↓a_var, ↓a_tup, ↓a_nil, ↓a_cons, ↓k_mul, ↓k_fdiv, ↓k_mod, ↓k_dtup, ↓k_dlst, ↓kE_mul, ↓k_lcat, ↓k_rng1, ↓k_rng2, ↓k_app, ↓tw_t, ↓tw_f, ↓if2_t, ↓if2_f, ↓one_eq, ↓mkd_eq, ↓th_next, ↓th_ret, ↓th_brk, ↓th_cont, a_var, a_tup, a_nil, a_cons, k_mul, k_fdiv, k_mod, k_dtup, k_dlst, kE_mul, k_lcat, k_rng1, k_rng2, k_app, tw_t, tw_f, if2_t, if2_f, one_eq, mkd_eq, th_next, th_ret, th_brk, th_cont, k_some, q_eq, e_add, e_sub, e_lt, e_le, e_gt, e_ge, e_eq, e_ne, e_neg, e_max, e_min, e_int, e_bitl, e_lenl, e_lent, e_id0, e_id1, eE_add, eE_sub, eE_eq, eE_ne, eE_gt, eE_max, eE_ll, eE_id0, e_seq, pa_rt, up_rt, sb_rt, get_z, get_s, W.isF, isFs, Bool.and_true, Bool.true_and, Bool.not_false, W.frz, frzs, true_implies, reduceCtorEq, false_implies, and_true, true_and, List.map, List.replicate, List.cons_append, List.nil_append, List.set, List.length, lent_0, tw_dec, tw_eq, tw_ne, Bool.true_or, Bool.or_true, Bool.not_true, Bool.false_and, Bool.false_or, Bool.or_false, Bool.and_false, beq_self_eq_true, mkOf_s, e_cls, isLst]
    refine ⟨by decide, ?_⟩
    refine draw_ok (k := k + 18) hx (by omega) (by omega) (by omega) fun v2 hw0 hw1 => ?_
    have h2 : ∀ {Q : W → Prop}, Ok (opE .idx [.lst true [.int 40, .int 4000], .int v2]) Q ↔ Q (.int (if v2 = 0 then 40 else 4000)) := fun {Q} => by
      rcases (show v2 = 0 ∨ v2 = 1 by omega) with rfl | rfl
      · exact ok_some
      · exact ok_some
    obtain ⟨mx, hm⟩ : ∃ mx : Int, mx = if v2 = 0 then 40 else 4000 := ⟨_, rfl⟩
    have hm1 : mx = 40 ∨ mx = 4000 := by
      rw [hm]
      split
      · exact .inl rfl
      · exact .inr rfl
    rw [← hm] at h2
    simp only [eqo h2, ↓kk, ↓tk, ↓thk, ↓w_cons, ↓w_nil, ↓w_ret, ↓w_asg, ↓w_iff, ↓w_expr, ↓w_aug, ↓w_for, ↓w_whl, ↓w_mut, ↓w_seti, ↓w_setf, ↓w_pass, ↓w_brk, ↓w_cont, ↓w_mut1, ↓v_cal, ↓v_pv, ↓v_bi, ↓v_un, ↓v_ds, ↓v_not, ↓v_or, ↓v_and, ↓v_ife, ↓v_mtv, ↓v_var, ↓v_cab, ↓v_sup, ↓v_mtb, ↓v_mak, ↓v_lcp, ↓v_cons, ↓v_nil, ↓p_bi, ↓p_un, ↓p_peek, ↓p_cst, ↓p_glb, ↓p_or, ↓p_and, ↓p_not, ↓p_ife, ↓a_var, ↓a_tup, ↓a_nil, ↓a_cons, ↓k_mul, ↓k_fdiv, ↓k_mod, ↓k_dtup, ↓k_dlst, ↓kE_mul, ↓k_lcat, ↓k_rng1, ↓k_rng2, ↓k_app, ↓tw_t, ↓tw_f, ↓if2_t, ↓if2_f, ↓one_eq, ↓mkd_eq, ↓th_next, ↓th_ret, ↓th_brk, ↓th_cont, a_var, a_tup, a_nil, a_cons, k_mul, k_fdiv, k_mod, k_dtup, k_dlst, kE_mul, k_lcat, k_rng1, k_rng2, k_app, tw_t, tw_f, if2_t, if2_f, one_eq, mkd_eq, th_next, th_ret, th_brk, th_cont, k_some, q_eq, e_add, e_sub, e_lt, e_le, e_gt, e_ge, e_eq, e_ne, e_neg, e_max, e_min, e_int, e_bitl, e_lenl, e_lent, e_id0, e_id1, eE_add, eE_sub, eE_eq, eE_ne, eE_gt, eE_max, eE_ll, eE_id0, e_seq, pa_rt, up_rt, sb_rt, get_z, get_s, W.isF, isFs, Bool.and_true, Bool.true_and, Bool.not_false, W.frz, frzs, true_implies, reduceCtorEq, false_implies, and_true, true_and, List.map, List.replicate, List.cons_append, List.nil_append, List.set, List.length, lent_0, tw_dec, tw_eq, tw_ne, Bool.true_or, Bool.or_true, Bool.not_true, Bool.false_and, Bool.false_or, Bool.or_false, Bool.and_false, beq_self_eq_true, mkOf_s, e_cls, isLst]
    refine draw_ok (k := k + 18) hx (by omega) (by omega) (by omega) fun v3 hu0 hu1 => ?_
    obtain ⟨g, hg⟩ : ∃ g, g = 1 + v3 := ⟨_, rfl⟩
    simp only [↓kk, ↓tk, ↓thk, ↓w_cons, ↓w_nil, ↓w_ret, ↓w_asg, ↓w_iff, ↓w_expr, ↓w_aug, ↓w_for, ↓w_whl, ↓w_mut, ↓w_seti, ↓w_setf, ↓w_pass, ↓w_brk, ↓w_cont, ↓w_mut1, ↓v_cal, ↓v_pv, ↓v_bi, ↓v_un, ↓v_ds, ↓v_not, ↓v_or, ↓v_and, ↓v_ife, ↓v_mtv, ↓v_var, ↓v_cab, ↓v_sup, ↓v_mtb, ↓v_mak, ↓v_lcp, ↓v_cons, ↓v_nil, ↓p_bi, ↓p_un, ↓p_peek, ↓p_cst, ↓p_glb, ↓p_or, ↓p_and, ↓p_not, ↓p_ife, ↓a_var, ↓a_tup, ↓a_nil, ↓a_cons, ↓k_mul, ↓k_fdiv, ↓k_mod, ↓k_dtup, ↓k_dlst, ↓kE_mul, ↓k_lcat, ↓k_rng1, ↓k_rng2, ↓k_app, ↓tw_t, ↓tw_f, ↓if2_t, ↓if2_f, ↓one_eq, ↓mkd_eq, ↓th_next, ↓th_ret, ↓th_brk, ↓th_cont, a_var, a_tup, a_nil, a_cons, k_mul, k_fdiv, k_mod, k_dtup, k_dlst, kE_mul, k_lcat, k_rng1, k_rng2, k_app, tw_t, tw_f, if2_t, if2_f, one_eq, mkd_eq, th_next, th_ret, th_brk, th_cont, k_some, q_eq, e_add, e_sub, e_lt, e_le, e_gt, e_ge, e_eq, e_ne, e_neg, e_max, e_min, e_int, e_bitl, e_lenl, e_lent, e_id0, e_id1, eE_add, eE_sub, eE_eq, eE_ne, eE_gt, eE_max, eE_ll, eE_id0, e_seq, pa_rt, up_rt, sb_rt, get_z, get_s, W.isF, isFs, Bool.and_true, Bool.true_and, Bool.not_false, W.frz, frzs, true_implies, reduceCtorEq, false_implies, and_true, true_and, List.map, List.replicate, List.cons_append, List.nil_append, List.set, List.length, lent_0, tw_dec, tw_eq, tw_ne, Bool.true_or, Bool.or_true, Bool.not_true, Bool.false_and, Bool.false_or, Bool.or_false, Bool.and_false, beq_self_eq_true, mkOf_s, e_cls, isLst]
    rw [← hg]
    refine ⟨by omega, by omega, ?_⟩
    exact st3 hs hp hx (by omega) (by omega) (by omega) (by omega) (by omega) (by omega)
  · subst hr
    exact ⟨[], rfl, rfl⟩
end
/-- the law answers True -/
theorem law_run (ns : List Int) : run t.tab t.ds 60 54 [.scr ns] = some (.bl true, []) := by
  obtain ⟨f, u, hs⟩ := ex_stp
  obtain ⟨p, hp⟩ := ex_plt hs
  exact ok_eq (law_ok hs hp (k := 40))
end Lk48
end
section
set_option maxRecDepth 100000
set_option maxHeartbeats 0
open PySem PySem.W PySem.Calls PyProof.Rows
theorem PySem.Challenge.cw_nearby_k48_whole_rounds_told_holds : PySem.Challenge.rw_nearby_k48_whole_rounds_told.Holds := by
  w_on; o_law
  refine HandSHeadRun.head_any (r := OpenLaw.row PySem.Challenge.rw_nearby_k48_whole_rounds_told) (q := view (OpenLaw.row PySem.Challenge.rw_nearby_k48_whole_rounds_told).prog [63]) (H := HLk48.hk) (ob := HLk48.ob) (M := 20000) (loose := Lk48.loose) (d := HandSHeadRun.topDef (OpenLaw.row PySem.Challenge.rw_nearby_k48_whole_rounds_told).prog 63) (kwd := []) HLk48.ob_eq
    (by kernel_rfl) (fun s => by kernel_rfl) HLk48.run (by kernel_rfl) (by kernel_rfl) (by kernel_rfl) (by rfl) (by first | assumption | decide +kernel) (by decide +kernel) ⟨rfl, rfl, rfl, rfl, rfl, by decide +kernel⟩ ?hw ?hc
  case hw => w_witness2
  case hc =>
    refine L2.walk_ofE (l := PySem.Challenge.rw_nearby_k48_whole_rounds_told) (n := 63) (k := 60) (x := "script") (CX := L2.CX0) rfl (by decide) (by kernel_rfl) ⟨rfl, by decide, by decide⟩ ?F (fun _ _ _ _ z => z)
    intro w mg fa h Y G hmg0
    obtain ⟨K, KX, c⟩ := Y
    have hmg : mg ("law" : PySem.Str) = some (.ref fa) := by
      have e : (HandSHeadRun.topDef (OpenLaw.row PySem.Challenge.rw_nearby_k48_whole_rounds_told).prog 63).name = ("law" : PySem.Str) := by kernel_rfl
      rw [← e]
      exact hmg0
    obtain ⟨fd, sp, hb, hS, hF⟩ := Nb.law_end (t := Lk48.t) (P := (PySem.Challenge.rw_nearby_k48_whole_rounds_told).prog) (w := w) (ln := Lk48.ln) (li := Lk48.li) (k := 60) (n := 63) Lk48.ok Lk48.okf Lk48.bds Lk48.lawAt (fun ns _ => ⟨_, Lk48.law_run ns⟩) KX G hmg c
    exact ⟨K, fd, sp, KX, hb, hS, hF⟩
end
