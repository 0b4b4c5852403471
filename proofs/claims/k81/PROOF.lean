import PyProof.Rows.All
import Wide.All
import OpenK.AllK
import Wide.FinOn
import PySem.Syntax
import PySem.PyData
import PyProof.P3Statements
import PyProof.EqLayable
import PyProof.ReprReads
import HandS.Comp
import HandS.ForMost
import HandS.Wide
import HandS.WideBits
import HandS.Gcd
import HandS.IsInst
import HandS.Rev
import HandS.RevRange
import HandS.Zip
import HandS.Style
import HandS.Defaults
import PyProof.ReprRoads
import PyProof.CallFns
import KE.GoesMore
import KE.GoesEnum
import HandS.Conv
import HandS.EndBits
import HandS.Head3
import HandS.HeadHook2
import HandS.HeadEnd
import PySem.Challenge.RW_allhelms_k81_whole_errors_beside_the_fou
import PyProof.Rows.RegStrFacts
import KE.KStateDown
set_option Elab.async false
set_option linter.all false
set_option maxRecDepth 100000
/-! Dn1: a small language of pure data (compiled from the text's defs) and its meaning. -/
namespace Dn
open PySem

inductive Bn where | add | sub | mul | fdiv | mod | pow
  deriving DecidableEq
inductive Cp where | eq | ne | lt | le | gt | ge
  deriving DecidableEq
inductive Bi where | len | max2 | min2 | abs | tuple | list | gcd | repr | int | all | any | isInt | isBool | isTup | isStr | bits
  deriving DecidableEq
mutual
inductive Pat where | one (i : Nat) | tup (p : PatL)
inductive PatL where | nil | cons (p : Pat) (r : PatL)
end
mutual
inductive CE where
  | var (i : Nat) | int (i : Int) | bl (b : Bool) | non | str (s : Str) | glo (g : Nat)
  | tup (a : CA) | lst (a : CA)
  | bin (o : Bn) (a b : CE) | neg (a : CE)
  | not (a : CE) | and (a b : CE) | or (a b : CE)
  | cmp (o : Cp) (a b : CE) | isN (a : CE) | notN (a : CE) | isB (v : Bool) (a : CE) | notB (v : Bool) (a : CE)
  | ite (c a b : CE)
  | idx (a i : CE) | slL (a lo : CE) | slH (a hi : CE) | rev (a : CE)
  | call (f : Nat) (a : CA) | callC (f : Nat) (s : Nat) (a : CA)
  | blt (b : Bi) (a : CA)
  | comp (p : Pat) (own : List Nat) (it : CI) (c e : CE)
  | ck (s j : Nat) | sg (s : Nat) (i : CE) | sl (s : Nat)
inductive CA where | nil | cons (e : CE) (r : CA)
inductive CI where | seq (e : CE) | rng (e : CE) | rng2 (a b : CE) | enum (e : CE) | zip (a b : CE) | revr (e : CE) | revs (e : CE) | ss (s : Nat) (hi : CE)
end
mutual
inductive CS where
  | asg (i : Nat) (e : CE) | unp (p : PatL) (e : CE) | par (is : List Nat) (a : CA)
  | setI (i : Nat) (ix e : CE) | app (i : Nat) (e : CE) | popT (p : PatL) (x : Nat) | popA (i : Nat) (x : Nat) (ix : CE) | popE (x : Nat)
  | cask (i : Nat) (f : Nat) (s : Nat) (a : CA) | ckS (s j : Nat) (e : CE) | ckD (s i : Nat) (e : CE)
  | iff (c : CE) (a b : CSs) | whl (c : CE) (b : CSs) | for_ (p : Pat) (it : CI) (b : CSs)
  | ret (e : CE) | retN | brk | cnt | pas | exc (e : CE) | stuck
inductive CSs where | nil | cons (s : CS) (r : CSs)
end

/-- a slot: nothing known; data (own: a list of this frame's own, which nothing else holds); the cask -/
inductive Sl where | un | dat (own : Bool) (d : PyData) | csk | scr (ns : List Int)
abbrev DEnv := List Sl
/-- what the cask holds -/
abbrev KS := Int × Int × Int
abbrev Phi := Nat → List Sl → KS → Option (PyData × KS)
abbrev Glo := Nat → Option PyData

/-- the cask's cells -/
def ckAt (k : KS) : Nat → Option Int
  | 0 => some k.1
  | 1 => some k.2.1
  | 2 => some k.2.2
  | _ => none
def ckSet (k : KS) (v : Int) : Nat → Option KS
  | 0 => some (v, k.2.1, k.2.2)
  | 1 => some (k.1, v, k.2.2)
  | 2 => some (k.1, k.2.1, v)
  | _ => none
def scrAt (ns : List Int) (i : Int) : Option Int := if 0 ≤ i then (if i < ns.length then ns[i.toNat]? else none) else none
def mulOk (i j : Int) : Bool := decide (i.natAbs.log2 < 60000000) && decide (j.natAbs.log2 < 60000000)
def lenOk (n : Nat) : Bool := decide (n ≤ 1000000)

def binD : Bn → PyData → PyData → Option PyData
  | .add, .int i, .int j => some (.int (i + j))
  | .add, .list xs, .list ys => if lenOk (xs.length + ys.length) then some (.list (xs ++ ys)) else none
  | .add, .tuple xs, .tuple ys => if !xs.isEmpty && lenOk (xs.length + ys.length) then some (.tuple (xs ++ ys)) else none
  | .sub, .int i, .int j => some (.int (i - j))
  | .mul, .int i, .int j => if mulOk i j then some (.int (i * j)) else none
  | .mul, .list xs, .int j => if decide (0 ≤ j) && lenOk (xs.length * j.toNat) && decide (j ≤ 1000000) then some (.list (List.replicate j.toNat xs).flatten) else none
  | .fdiv, .int i, .int j => if j = 0 then none else some (.int (i.fdiv j))
  | .mod, .int i, .int j => if j = 0 then none else some (.int (i.fmod j))
  | .pow, .int i, .int j => if decide (0 ≤ j) && decide (j ≤ 1000) && decide (i.natAbs < 2 ^ 64) then some (.int (i ^ j.toNat)) else none
  | _, _, _ => none
def cmpD : Cp → PyData → PyData → Option Bool
  | .eq, a, b => if SeqAt.shaped a && SeqAt.shaped b then some (PyData.eqv a b) else none
  | .ne, a, b => if SeqAt.shaped a && SeqAt.shaped b then some (!PyData.eqv a b) else none
  | .lt, .int i, .int j => some (decide (i < j))
  | .le, .int i, .int j => some (decide (i ≤ j))
  | .gt, .int i, .int j => some (decide (j < i))
  | .ge, .int i, .int j => some (decide (j ≤ i))
  | _, _, _ => none
def isNone : PyData → Bool
  | .none => true
  | _ => false
def ixD (n : Nat) (i : Int) : Option Nat := if 0 ≤ i then (if i < n then some i.toNat else none) else if -(n : Int) ≤ i then some (i + n).toNat else none
def idxD : PyData → PyData → Option PyData
  | .list xs, .int i => (ixD xs.length i).bind fun j => xs[j]?
  | .tuple xs, .int i => (ixD xs.length i).bind fun j => xs[j]?
  | _, _ => none
def sIxD (n : Nat) (i : Int) : Nat := if 0 ≤ i then min i.toNat n else (i + n).toNat
def slLD : PyData → PyData → Option PyData
  | .list xs, .int i => some (.list (xs.drop (sIxD xs.length i)))
  | _, _ => none
def slHD : PyData → PyData → Option PyData
  | .list xs, .int i => some (.list (xs.take (sIxD xs.length i)))
  | _, _ => none
def revD : PyData → Option PyData
  | .list xs => some (.list xs.reverse)
  | _ => none
def boolsD : List PyData → Option (List Bool)
  | [] => some []
  | .bool b :: r => (boolsD r).map (b :: ·)
  | _ => none
def isKind : Bi → PyData → Bool
  | .isInt, .int _ => true | .isInt, .bool _ => true
  | .isBool, .bool _ => true
  | .isTup, .tuple _ => true
  | .isStr, .str _ => true
  | _, _ => false
def bltD : Bi → List PyData → Option PyData
  | .len, [.list xs] => some (.int xs.length)
  | .len, [.tuple xs] => some (.int xs.length)
  | .max2, [.int i, .int j] => some (.int (if j > i then j else i))
  | .min2, [.int i, .int j] => some (.int (if j < i then j else i))
  | .abs, [.int i] => some (.int (if i < 0 then -i else i))
  | .tuple, [.list xs] => some (.tuple xs)
  | .tuple, [.tuple xs] => some (.tuple xs)
  | .list, [.list xs] => some (.list xs)
  | .list, [.tuple xs] => some (.list xs)
  | .gcd, [.int i, .int j] => some (.int (Nat.gcd i.natAbs j.natAbs : Nat))
  | .repr, [d] => if d.showable && !d.hasDict && decide (d.depth ≤ 60) && decide (d.shown.length ≤ 16000000) then some (.str d.shown) else none
  | .int, [.int i] => some (.int i)
  | .all, [.list xs] => (boolsD xs).map fun bs => .bool (bs.all id)
  | .any, [.list xs] => (boolsD xs).map fun bs => .bool (bs.any id)
  | .isInt, [d] => some (.bool (isKind .isInt d))
  | .isBool, [d] => some (.bool (isKind .isBool d))
  | .isTup, [d] => some (.bool (isKind .isTup d))
  | .isStr, [d] => some (.bool (isKind .isStr d))
  | .bits, [.int i] => some (.int (if i = 0 then 0 else (i.natAbs.log2 : Int) + 1))
  | _, _ => none

/-- is what e gives a list just made, which nothing else holds? -/
def CE.fresh : CE → PyData → Bool
  | .lst _, _ => true
  | .comp .., _ => true
  | .blt .list _, _ => true
  | .bin .add _ _, .list _ => true
  | .bin .mul _ _, .list _ => true
  | .slL _ _, .list _ => true
  | .slH _ _, .list _ => true
  | .rev _, .list _ => true
  | _, _ => false

def envSet (env : DEnv) (i : Nat) (s : Sl) : Option DEnv := if i < env.length then some (env.set i s) else none
mutual
def bindP : Pat → PyData → DEnv → Option DEnv
  | .one i, d, env => envSet env i (.dat false d)
  | .tup p, .tuple ds, env => bindPL p ds env
  | .tup _, _, _ => none
def bindPL : PatL → List PyData → DEnv → Option DEnv
  | .nil, [], env => some env
  | .cons p r, d :: ds, env => (bindP p d env).bind fun e => bindPL r ds e
  | _, _, _ => none
end
def wipeD (env : DEnv) : List Nat → DEnv
  | [] => env
  | i :: r => (wipeD env r).set i .un

/-- the turns of a comprehension -/
def compD (f : PyData → KS → Option (Option PyData × KS)) : List PyData → KS → Option (List PyData × KS)
  | [], k => some ([], k)
  | x :: xs, k => (f x k).bind fun r => (compD f xs r.2).map fun q => ((match r.1 with | some y => y :: q.1 | none => q.1), q.2)
def itD : List PyData → Nat → List PyData
  | [], _ => []
  | x :: xs, n => .tuple [.int n, x] :: itD xs (n + 1)
def seqD : PyData → Option (List PyData)
  | .list xs => some xs
  | .tuple xs => some xs
  | _ => none
def rngD (lo : Int) (n : Nat) : List PyData := (List.range n).map fun i => .int (lo + (i : Nat))
def zipD : List PyData → List PyData → List PyData
  | x :: xs, y :: ys => .tuple [x, y] :: zipD xs ys
  | _, _ => []
def rngOk (i : Int) : Bool := decide (-1000000000 ≤ i) && decide (i ≤ 1000000000)

section
variable (Φ : Phi) (G : Glo)
mutual
/-- m: read only (an own list may be read, not held) -/
def den : CE → Bool → DEnv → KS → Option (PyData × KS)
  | .var i, m, env, k => match env[i]? with
    | some (.dat o d) => if o && !m then none else some (d, k)
    | _ => none
  | .int i, _, _, k => some (.int i, k)
  | .bl b, _, _, k => some (.bool b, k)
  | .non, _, _, k => some (.none, k)
  | .str s, _, _, k => some (.str s, k)
  | .glo g, _, _, k => (G g).map fun d => (d, k)
  | .tup a, _, env, k => (denA a false env k).map fun r => (.tuple r.1, r.2)
  | .lst a, _, env, k => (denA a false env k).map fun r => (.list r.1, r.2)
  | .bin o a b, _, env, k => (den a true env k).bind fun r => (den b true env r.2).bind fun q => (binD o r.1 q.1).map fun d => (d, q.2)
  | .neg a, _, env, k => (den a true env k).bind fun r => match r.1 with
    | .int i => some (.int (-i), r.2)
    | _ => none
  | .not a, _, env, k => (den a true env k).bind fun r => match r.1 with
    | .bool b => some (.bool (!b), r.2)
    | _ => none
  | .and a b, _, env, k => (den a true env k).bind fun r => match r.1 with
    | .bool true => (den b true env r.2).bind fun q => match q.1 with
      | .bool c => some (.bool c, q.2)
      | _ => none
    | .bool false => some (.bool false, r.2)
    | _ => none
  | .or a b, _, env, k => (den a true env k).bind fun r => match r.1 with
    | .bool false => (den b true env r.2).bind fun q => match q.1 with
      | .bool c => some (.bool c, q.2)
      | _ => none
    | .bool true => some (.bool true, r.2)
    | _ => none
  | .cmp o a b, _, env, k => (den a true env k).bind fun r => (den b true env r.2).bind fun q => (cmpD o r.1 q.1).map fun d => (.bool d, q.2)
  | .isN a, _, env, k => (den a true env k).map fun r => (.bool (isNone r.1), r.2)
  | .notN a, _, env, k => (den a true env k).map fun r => (.bool (!isNone r.1), r.2)
  | .isB v a, _, env, k => (den a true env k).bind fun r => match r.1 with
    | .bool c => some (.bool (c == v), r.2)
    | _ => none
  | .notB v a, _, env, k => (den a true env k).bind fun r => match r.1 with
    | .bool c => some (.bool (c != v), r.2)
    | _ => none
  | .ite c a b, m, env, k => (den c true env k).bind fun r => match r.1 with
    | .bool true => den a m env r.2
    | .bool false => den b m env r.2
    | _ => none
  | .idx a i, _, env, k => (den a true env k).bind fun r => (den i true env r.2).bind fun q => (idxD r.1 q.1).map fun d => (d, q.2)
  | .slL a lo, _, env, k => (den a true env k).bind fun r => (den lo true env r.2).bind fun q => (slLD r.1 q.1).map fun d => (d, q.2)
  | .slH a hi, _, env, k => (den a true env k).bind fun r => (den hi true env r.2).bind fun q => (slHD r.1 q.1).map fun d => (d, q.2)
  | .rev a, _, env, k => (den a true env k).bind fun r => (revD r.1).map fun d => (d, r.2)
  | .call f a, _, env, k => (denA a false env k).bind fun r => Φ f (r.1.map (Sl.dat false)) r.2
  | .callC f s a, _, env, k => match env[s]? with
    | some .csk => (denA a false env k).bind fun r => Φ f (.csk :: r.1.map (Sl.dat false)) r.2
    | some (.scr ns) => (denA a false env k).bind fun r => Φ f (.scr ns :: r.1.map (Sl.dat false)) r.2
    | _ => none
  | .blt b a, _, env, k => (denA a true env k).bind fun r => (bltD b r.1).map fun d => (d, r.2)
  | .comp p own it c e, _, env, k => (denI it env k).bind fun r => if !lenOk r.1.length then none else (compD (fun x k => (bindP p x (wipeD env own)).bind fun e1 =>
      (den c true e1 k).bind fun q => match q.1 with
        | .bool true => (den e false e1 q.2).map fun z => (some z.1, z.2)
        | .bool false => some (none, q.2)
        | _ => none) r.1 r.2).map fun z => (.list z.1, z.2)
  | .ck s j, _, env, k => match env[s]? with
    | some .csk => (ckAt k j).map fun v => (.int v, k)
    | _ => none
  | .sg s i, _, env, k => match env[s]? with
    | some (.scr ns) => (den i true env k).bind fun r => match r.1 with
      | .int i => (scrAt ns i).map fun v => (.int v, r.2)
      | _ => none
    | _ => none
  | .sl s, _, env, k => match env[s]? with
    | some (.scr ns) => some (.int ns.length, k)
    | _ => none
def denA : CA → Bool → DEnv → KS → Option (List PyData × KS)
  | .nil, _, _, k => some ([], k)
  | .cons e r, m, env, k => (den e m env k).bind fun q => (denA r m env q.2).map fun z => (q.1 :: z.1, z.2)
def denI : CI → DEnv → KS → Option (List PyData × KS)
  | .seq e, env, k => (den e false env k).bind fun r => (seqD r.1).map fun xs => (xs, r.2)
  | .rng e, env, k => (den e true env k).bind fun r => match r.1 with
    | .int i => if rngOk i then some (rngD 0 i.toNat, r.2) else none
    | _ => none
  | .rng2 a b, env, k => (den a true env k).bind fun r => (den b true env r.2).bind fun q => match r.1, q.1 with
    | .int i, .int j => if rngOk i && rngOk j then some (rngD i (j - i).toNat, q.2) else none
    | _, _ => none
  | .enum e, env, k => (den e false env k).bind fun r => (seqD r.1).map fun xs => (itD xs 0, r.2)
  | .zip a b, env, k => (den a false env k).bind fun r => (den b false env r.2).bind fun q => match r.1, q.1 with
    | .list xs, .list ys => some (zipD xs ys, q.2)
    | .tuple xs, .tuple ys => some (zipD xs ys, q.2)
    | _, _ => none
  | .revr e, env, k => (den e true env k).bind fun r => match r.1 with
    | .int i => if rngOk i then some ((rngD 0 i.toNat).reverse, r.2) else none
    | _ => none
  | .revs e, env, k => (den e false env k).bind fun r => (seqD r.1).map fun xs => (xs.reverse, r.2)
  | .ss s hi, env, k => match env[s]? with
    | some (.scr ns) => (den hi true env k).bind fun r => match r.1 with
      | .int i => some ((ns.take (sIxD ns.length i)).map PyData.int, r.2)
      | _ => none
    | _ => none
end
/-- written items, each with «just made» -/
def denO : CA → DEnv → KS → Option (List (Bool × PyData) × KS)
  | .nil, _, k => some ([], k)
  | .cons e r, env, k => (den Φ G e false env k).bind fun q => (denO r env q.2).map fun z => ((e.fresh q.1, q.1) :: z.1, z.2)

/-! ### what is let go of: own lists that an expression holds on to -/
mutual
def leakE : CE → Bool → List Nat
  | .var i, m => if m then [] else [i]
  | .int _, _ | .bl _, _ | .non, _ | .str _, _ | .glo _, _ => []
  | .tup a, _ | .lst a, _ => leakA a false
  | .bin _ a b, _ | .cmp _ a b, _ | .idx a b, _ | .slL a b, _ | .slH a b, _ | .and a b, _ | .or a b, _ => leakE a true ++ leakE b true
  | .neg a, _ | .not a, _ | .isN a, _ | .notN a, _ | .isB _ a, _ | .notB _ a, _ | .rev a, _ => leakE a true
  | .ite c a b, m => leakE c true ++ leakE a m ++ leakE b m
  | .call _ a, _ | .callC _ _ a, _ => leakA a false
  | .blt _ a, _ => leakA a true
  | .comp _ _ it c e, _ => leakI it ++ leakE c true ++ leakE e false
  | .ck _ _, _ | .sl _, _ => []
  | .sg _ i, _ => leakE i true
def leakA : CA → Bool → List Nat
  | .nil, _ => []
  | .cons e r, m => leakE e m ++ leakA r m
def leakI : CI → List Nat
  | .seq e | .enum e | .revs e => leakE e false
  | .rng e | .revr e => leakE e true
  | .rng2 a b => leakE a true ++ leakE b true
  | .zip a b => leakE a false ++ leakE b false
  | .ss _ e => leakE e true
end
def freeze1 (s : Sl) : Sl := match s with
  | .dat _ d => .dat false d
  | s => s
def freeze (env : DEnv) : List Nat → DEnv
  | [] => env
  | i :: r => (freeze env r).modify i freeze1

inductive Res where
  | nx (env : DEnv) (k : KS) | rt (d : PyData) (k : KS) (f : Bool) | bk (env : DEnv) (k : KS) | ct (env : DEnv) (k : KS)

def forD (f : PyData → DEnv → KS → Option Res) : List PyData → DEnv → KS → Option Res
  | [], env, k => some (.nx env k)
  | x :: xs, env, k => (f x env k).bind fun r => match r with
    | .nx e k | .ct e k => forD f xs e k
    | .bk e k => some (.nx e k)
    | .rt d k f => some (.rt d k f)
def whlD (c : DEnv → KS → Option (PyData × KS)) (f : DEnv → KS → Option Res) : Nat → DEnv → KS → Option Res
  | 0, _, _ => none
  | n + 1, env, k => (c env k).bind fun r => match r.1 with
    | .bool false => some (.nx env r.2)
    | .bool true => (f env r.2).bind fun r => match r with
      | .nx e k | .ct e k => whlD c f n e k
      | .bk e k => some (.nx e k)
      | .rt d k f => some (.rt d k f)
    | _ => none
def setsD : List Nat → List (Bool × PyData) → DEnv → Option DEnv
  | [], [], env => some env
  | i :: is, d :: ds, env => (envSet env i (.dat d.1 d.2)).bind fun e => setsD is ds e
  | _, _, _ => none
mutual
/-- n: how many turns a while may make -/
def denS (n : Nat) : CS → DEnv → KS → Option Res
  | .asg i e, env, k => let env := freeze env (leakE e false)
    (den Φ G e false env k).bind fun r => (envSet env i (.dat (e.fresh r.1) r.1)).map fun en => .nx en r.2
  | .unp p e, env, k => let env := freeze env (leakE e false)
    (den Φ G e false env k).bind fun r => match r.1 with
      | .tuple ds => (bindPL p ds env).map fun en => .nx en r.2
      | _ => none
  | .par is a, env, k => let env := freeze env (leakA a false)
    (denO Φ G a env k).bind fun r => (setsD is r.1 env).map fun en => .nx en r.2
  | .setI i ix e, env, k => let env := freeze env (leakE e false ++ leakE ix true)
    (den Φ G e false env k).bind fun r => match env[i]? with
      | some (.dat true (.list xs)) => (den Φ G ix true env r.2).bind fun q => match q.1 with
        | .int j => (ixD xs.length j).bind fun at_ => (envSet env i (.dat true (.list (xs.set at_ r.1)))).map fun en => .nx en q.2
        | _ => none
      | _ => none
  | .app i e, env, k => let env := freeze env (leakE e false)
    (den Φ G e false env k).bind fun r => match env[i]? with
      | some (.dat true (.list xs)) => if lenOk (xs.length + 1) then (envSet env i (.dat true (.list (xs ++ [r.1])))).map fun en => .nx en r.2 else none
      | _ => none
  | .popT p x, env, k => match env[x]? with
    | some (.dat true (.list xs)) => match xs.getLast? with
      | some (.tuple ds) => (envSet env x (.dat true (.list xs.dropLast))).bind fun en => (bindPL p ds en).map fun en => .nx en k
      | _ => none
    | _ => none
  | .popA i x ix, env, k => let env := freeze env (leakE ix true)
    if i = x then none else match env[x]? with
    | some (.dat true (.list xs)) => (den Φ G ix true env k).bind fun q => match q.1 with
      | .int j => if rngOk j then (ixD xs.length j).bind fun at_ => match xs[at_]? with
          | some y => (match env[i]? with
            | some (.dat true (.list ys)) => if lenOk (ys.length + 1) then (envSet env x (.dat true (.list (xs.eraseIdx at_)))).bind fun en => (envSet en i (.dat true (.list (ys ++ [y])))).map fun en => .nx en q.2 else none
            | _ => none)
          | none => none
        else none
      | _ => none
    | _ => none
  | .popE x, env, k => match env[x]? with
    | some (.dat true (.list xs)) => if xs.isEmpty then none else (envSet env x (.dat true (.list xs.dropLast))).map fun en => .nx en k
    | _ => none
  | .cask i f s a, env, k => let env := freeze env (leakA a false)
    match env[s]? with
    | some (.scr ns) => (denA Φ G a false env k).bind fun r => if env.all (fun s => match s with | .csk => false | _ => true) then
      (Φ f (.scr ns :: r.1.map (Sl.dat false)) r.2).bind fun q => (envSet env i .csk).map fun en => .nx en q.2 else none
    | _ => none
  | .ckS s j e, env, k => let env := freeze env (leakE e false)
    (den Φ G e false env k).bind fun r => match env[s]? with
      | some .csk => match r.1 with
        | .int v => (ckSet r.2 v j).map fun k2 => .nx env k2
        | _ => none
      | _ => none
  | .ckD s i e, env, k => let env := freeze env (leakE e true)
    match env[s]? with
    | some .csk => (den Φ G e true env k).bind fun r => match r.1 with
      | .int t => if decide (0 < t) && decide (0 ≤ r.2.1) && decide (t < 1073741824) && decide (s ≠ i) && decide (k.1 = r.2.1) then
          (envSet env i (.dat false (.int (r.2.1 % t)))).map fun en => .nx en (r.2.1 / t, r.2.2.1, r.2.2.2) else none
      | _ => none
    | _ => none
  | .iff c a b, env, k => let env := freeze env (leakE c true)
    (den Φ G c true env k).bind fun r => match r.1 with
      | .bool true => denSs n a env r.2
      | .bool false => denSs n b env r.2
      | _ => none
  | .whl c b, env, k => whlD (fun env k => den Φ G c true env k) (fun env k => denSs n b env k) n (freeze env (leakE c true)) k
  | .for_ p it b, env, k => let env := freeze env (leakI it)
    (denI Φ G it env k).bind fun r => forD (fun x env k => (bindP p x env).bind fun en => denSs n b en k) r.1 env r.2
  | .ret e, env, k => (den Φ G e false (freeze env (leakE e false)) k).map fun r => .rt r.1 r.2 (e.fresh r.1)
  | .retN, _, k => some (.rt .none k false)
  | .brk, env, k => some (.bk env k)
  | .cnt, env, k => some (.ct env k)
  | .pas, env, k => some (.nx env k)
  | .exc e, env, k => let env := freeze env (leakE e false)
    (den Φ G e false env k).map fun r => .nx env r.2
  | .stuck, _, _ => none
def denSs (n : Nat) : CSs → DEnv → KS → Option Res
  | .nil, env, k => some (.nx env k)
  | .cons s r, env, k => (denS n s env k).bind fun q => match q with
    | .nx e k => denSs n r e k
    | q => some q
end
end

/-- a def: its slots, its body -/
structure Fn where
  slots : Nat
  pars : Nat
  body : CSs
def runFn (Φ : Phi) (G : Glo) (n : Nat) (f : Fn) (as : List Sl) (k : KS) : Option (PyData × KS) :=
  if as.length = f.pars then (denSs Φ G n f.body (as ++ List.replicate (f.slots - f.pars) .un) k).bind fun r => match r with
    | .rt d k _ => some (d, k)
    | .nx _ k => some (.none, k)
    | _ => none
  else none
/-- .. that makes the cask: it returns a new list of three numbers -/
def runMk (Φ : Phi) (G : Glo) (n : Nat) (f : Fn) (as : List Sl) (k : KS) : Option (PyData × KS) :=
  if as.length = f.pars then (denSs Φ G n f.body (as ++ List.replicate (f.slots - f.pars) .un) k).bind fun r => match r with
    | .rt (.list [.int a, .int b, .int c]) _ true => some (.none, (a, b, c))
    | _ => none
  else none
end Dn
set_option Elab.async false
set_option linter.all false
set_option maxRecDepth 100000
/-! Dn2: from the text's own syntax to the small language. -/
namespace Dn
open PySem L2

/-- what names stand for: the frame's slots N, defs, module constants, defs that make the cask -/
structure Ctx where
  sc : Scope
  N : List Str
  fids : List (Str × Nat)
  gids : List (Str × Nat)
  mks : List (Str × Nat)

def Ctx.loc (Γ : Ctx) (x : Str) : Option Nat := match Γ.sc.names.lookup x with
  | some .local | some .cell | some .free => if x = "__debug__" ∨ x = "__classdict__" then none else Γ.N.findIdx? (fun y => decide (y = x))
  | _ => none
def Ctx.glb (Γ : Ctx) (x : Str) : Bool := decide (Γ.sc.names.lookup x = some .globalImplicit) && !decide (x = "__debug__")
def isCask (x : Str) : Bool := decide (x = "cask") || decide (x = "script")

def opC : Operator → Option Bn
  | .Pow => some .pow | .Add => some .add | .Sub => some .sub | .Mult => some .mul | .FloorDiv => some .fdiv | .Mod => some .mod
  | _ => none
def cpC : CmpOp → Option Cp
  | .Eq => some .eq | .NotEq => some .ne | .Lt => some .lt | .LtE => some .le | .Gt => some .gt | .GtE => some .ge
  | _ => none
def biC (x : Str) (n : Nat) : Option Bi :=
  if n = 1 then
    if x = "len" then some .len else if x = "abs" then some .abs else if x = "tuple" then some .tuple else if x = "list" then some .list
    else if x = "repr" then some .repr else if x = "int" then some .int else if x = "all" then some .all else if x = "any" then some .any else none
  else if n = 2 then if x = "max" then some .max2 else if x = "min" then some .min2 else if x = "gcd" then some .gcd else none
  else none
def kindC (x : Str) : Option Bi := if x = "int" then some .isInt else if x = "bool" then some .isBool else if x = "tuple" then some .isTup else if x = "str" then some .isStr else none
def isMinus1 : Expr → Bool
  | .UnaryOp .USub (.Constant (.int 1) _ _) _ => true
  | _ => false

mutual
def cmpPat (Γ : Ctx) : Nat → Expr → Option Pat
  | n + 1, .Name x _ => (match Γ.sc.names.lookup x with | some .local | some .cell => Γ.loc x | _ => none).map Pat.one
  | n + 1, .Tuple es _ _ => (cmpPatL Γ n es).map Pat.tup
  | _, _ => none
def cmpPatL (Γ : Ctx) : Nat → List Expr → Option PatL
  | n + 1, [] => some .nil
  | n + 1, e :: es => (cmpPat Γ n e).bind fun p => (cmpPatL Γ n es).map fun r => .cons p r
  | _, _ => none
end
mutual
def patVars : Pat → List Nat
  | .one i => [i]
  | .tup p => patVarsL p
def patVarsL : PatL → List Nat
  | .nil => []
  | .cons p r => patVars p ++ patVarsL r
end
def ownOf (Γ : Ctx) : List Nat → List (Str × Nat)
  | [] => []
  | i :: r => (match Γ.N[i]? with | some x => [(x, i)] | none => []) ++ ownOf Γ r
def blkOk' (Γ : Ctx) (scope : Scope) (vs : List Nat) : Bool := blkC Γ.N Γ.sc scope (ownOf Γ vs) && decide ((ownOf Γ vs).map (·.2) = vs)
def caskRead (Γ : Ctx) : Expr → Expr → Option CE
  | .Name x _, .Constant (.int j) _ _ => if decide (x = "cask") && decide (0 ≤ j) && decide (j < 3) then (Γ.loc x).map fun s => .ck s j.toNat else none
  | _, _ => none
def scrRead (Γ : Ctx) : Expr → Option Nat
  | .Name x _ => if x = "script" then Γ.loc x else none
  | _ => none
def scrSlice (Γ : Ctx) : Expr → Option (Nat × Expr)
  | .Subscript a (.Slice none (some hi) none _) _ => (scrRead Γ a).map fun s => (s, hi)
  | _ => none
mutual
def cmpE (Γ : Ctx) : Nat → Expr → Option CE
  | 0, _ => none
  | n + 1, .Name x _ => match Γ.loc x with
    | some i => some (.var i)
    | none => if Γ.glb x then (Γ.gids.lookup x).map .glo else none
  | n + 1, .Constant (.int i) _ _ => some (.int i)
  | n + 1, .Constant (.bool b) _ _ => some (.bl b)
  | n + 1, .Constant .none _ _ => some .non
  | n + 1, .Constant (.str s) _ _ => some (.str s)
  | n + 1, .Tuple es _ _ => if es.length ≤ 200 then (cmpA Γ n es).map .tup else none
  | n + 1, .List es _ => if es.length ≤ 200 then (cmpA Γ n es).map .lst else none
  | n + 1, .BinOp a op b _ => (opC op).bind fun o => (cmpE Γ n a).bind fun ca => (cmpE Γ n b).map fun cb => .bin o ca cb
  | n + 1, .UnaryOp .USub a _ => (cmpE Γ n a).map .neg
  | n + 1, .UnaryOp .Not a _ => (cmpE Γ n a).map .not
  | n + 1, .BoolOp _ [a] _ => cmpE Γ n a
  | n + 1, .BoolOp .And (a :: b :: r) p => (cmpE Γ n a).bind fun ca => (cmpE Γ n (.BoolOp .And (b :: r) p)).map fun cb => .and ca cb
  | n + 1, .BoolOp .Or (a :: b :: r) p => (cmpE Γ n a).bind fun ca => (cmpE Γ n (.BoolOp .Or (b :: r) p)).map fun cb => .or ca cb
  | n + 1, .Compare a [.Is] [.Constant .none _ _] _ => (cmpE Γ n a).map .isN
  | n + 1, .Compare a [.IsNot] [.Constant .none _ _] _ => (cmpE Γ n a).map .notN
  | n + 1, .Compare a [.Is] [.Constant (.bool v) _ _] _ => (cmpE Γ n a).map (.isB v)
  | n + 1, .Compare a [.IsNot] [.Constant (.bool v) _ _] _ => (cmpE Γ n a).map (.notB v)
  | n + 1, .Compare a [op] [b] _ => (cpC op).bind fun o => (cmpE Γ n a).bind fun ca => (cmpE Γ n b).map fun cb => .cmp o ca cb
  | n + 1, .IfExp c a b _ => (cmpE Γ n c).bind fun cc => (cmpE Γ n a).bind fun ca => (cmpE Γ n b).map fun cb => .ite cc ca cb
  | n + 1, .Subscript a (.Slice none none (some s) _) _ => if isMinus1 s then (cmpE Γ n a).map .rev else none
  | n + 1, .Subscript a (.Slice (some lo) none none _) _ => (cmpE Γ n a).bind fun ca => (cmpE Γ n lo).map fun cl => .slL ca cl
  | n + 1, .Subscript a (.Slice none (some hi) none _) _ => (cmpE Γ n a).bind fun ca => (cmpE Γ n hi).map fun ch => .slH ca ch
  | n + 1, .Subscript _ (.Slice _ _ _ _) _ => none
  | n + 1, .Subscript a i _ => match caskRead Γ a i with
    | some c => some c
    | none => match scrRead Γ a with
      | some s => (cmpE Γ n i).map fun ci => .sg s ci
      | none => (cmpE Γ n a).bind fun ca => (cmpE Γ n i).map fun ci => .idx ca ci
  | n + 1, .Call (.Name f _) (.Name x px :: es) [] pos => if !Γ.glb f then none else match Γ.fids.lookup f with
    | some id => if isCask x && es.length ≤ 200 then (Γ.loc x).bind fun s => (cmpA Γ n es).map fun ca => .callC id s ca
        else if es.length ≤ 200 then (cmpA Γ n (.Name x px :: es)).map fun ca => .call id ca else none
    | none => if f = "isinstance" then match es with
        | [.Name t _] => (kindC t).bind fun k => if Γ.glb t then (cmpE Γ n (.Name x px)).map fun ca => .blt k (.cons ca .nil) else none
        | _ => none
      else if decide (f = "len") && decide (x = "script") && es.isEmpty then (Γ.loc x).map .sl
      else (biC f (es.length + 1)).bind fun b => (cmpA Γ n (.Name x px :: es)).map fun ca => .blt b ca
  | n + 1, .Call (.Name f _) es [] pos => if !Γ.glb f then none else match Γ.fids.lookup f with
    | some id => if es.length ≤ 200 then (cmpA Γ n es).map fun ca => .call id ca else none
    | none => if es.isEmpty || f = "isinstance" then none else (biC f es.length).bind fun b => (cmpA Γ n es).map fun ca => .blt b ca
  | n + 1, .Call (.Attribute (.Name x px) m ap) [] [] pos => if decide (m = "bit_length") && ap.endLine == pos.line then (cmpE Γ n (.Name x px)).map fun ca => .blt .bits (.cons ca .nil) else none
  | n + 1, .ListComp elt [⟨tg, iter, ifs, 0⟩] scope _ =>
    let Δ : Ctx := { Γ with sc := scope }
    (cmpI Γ n tg iter).bind fun it => (cmpPat Δ n tg).bind fun p => (cmpE Δ n elt).bind fun ce =>
      (match ifs with | [] => some (CE.bl true) | [c] => cmpE Δ n c | _ => none).bind fun cc => if blkOk' Γ scope (patVars p) then some (.comp p (patVars p) it cc ce) else none
  | _, _ => none
def cmpA (Γ : Ctx) : Nat → List Expr → Option CA
  | 0, _ => none
  | n + 1, [] => some .nil
  | n + 1, e :: es => (cmpE Γ n e).bind fun c => (cmpA Γ n es).map fun r => .cons c r
def cmpI (Γ : Ctx) : Nat → Expr → Expr → Option CI
  | 0, _, _ => none
  | n + 1, tg, .Call (.Name f p) [a] [] pos => if !Γ.glb f || (Γ.fids.lookup f).isSome then (cmpE Γ n (.Call (.Name f p) [a] [] pos)).map .seq
    else if f = "range" then (cmpE Γ n a).map .rng
    else if f = "enumerate" then (match tg with | .Tuple _ _ _ => (cmpE Γ n a).map .enum | _ => none)
    else if f = "reversed" then (match a with
      | .Call (.Name g _) [b] [] _ => if decide (g = "range") && Γ.glb g && (Γ.fids.lookup g).isNone then (cmpE Γ n b).map .revr else none
      | a => (cmpE Γ n a).map .revs)
    else (cmpE Γ n (.Call (.Name f p) [a] [] pos)).map .seq
  | n + 1, tg, .Call (.Name f p) [a, b] [] pos => if !Γ.glb f || (Γ.fids.lookup f).isSome then (cmpE Γ n (.Call (.Name f p) [a, b] [] pos)).map .seq
    else if f = "range" then (cmpE Γ n a).bind fun ca => (cmpE Γ n b).map fun cb => .rng2 ca cb
    else if f = "zip" then (match tg with | .Tuple _ _ _ => (cmpE Γ n a).bind fun ca => (cmpE Γ n b).map fun cb => .zip ca cb | _ => none)
    else (cmpE Γ n (.Call (.Name f p) [a, b] [] pos)).map .seq
  | n + 1, tg, .Set _ _ _ => none
  | n + 1, tg, e => match scrSlice Γ e with
    | some (s, hi) => (cmpE Γ n hi).map (.ss s)
    | none => (cmpE Γ n e).map .seq
end

def locNames (Γ : Ctx) : List Expr → Option (List Nat)
  | [] => some []
  | .Name x _ :: r => if Γ.sc.names.lookup x = some .local ∨ Γ.sc.names.lookup x = some .cell then (Γ.loc x).bind fun i => (locNames Γ r).map fun is => i :: is else none
  | _ => none
def allLocal (Γ : Ctx) (ts : List Expr) : Bool := ts.all fun | .Name x _ => decide (Γ.sc.names.lookup x = some .local) | _ => false
def nodupNames : List Expr → Option (List Str)
  | [] => some []
  | .Name x _ :: r => (nodupNames r).bind fun xs => if x ∈ xs then none else some (x :: xs)
  | _ => none
def sameLine : List Expr → Bool
  | [] => true
  | .Name _ p :: r => r.all fun e => match e with | .Name _ q => q.line == p.line | _ => false
  | _ => false
/-- names that a written tuple is stored to from the right -/
def swapsT (Γ : Ctx) (ts vs : List Expr) : Bool := (ts.length == 2 || ts.length == 3) && vs.length == ts.length && allLocal Γ ts && (nodupNames ts).isSome && sameLine ts && !(vs.all (foldedForSure 8)) && !(vs.all (constantsAlone 8))
  && !(vs.any fun | .Starred .. => true | _ => false)
/-- .. surely not so -/
def noSwap (Γ : Ctx) (ts vs : List Expr) : Bool := !(ts.length == 2 || ts.length == 3) || vs.length != ts.length || ts.any (fun | .Tuple .. => true | .Name x _ => decide (Γ.sc.names.lookup x = some .cell) | _ => false) || (vs.all (foldedForSure 8))

/-- cask[0], digit = divmod(cask[0], e) -/
def divC (Γ : Ctx) : List Expr → Expr → Option (Nat × Nat × Expr)
  | [.Subscript (.Name x _) (.Constant (.int 0) _ _) _, .Name y _], .Call (.Name f _) [.Subscript (.Name x2 _) (.Constant (.int 0) _ _) _, b] [] _ =>
    if decide (x = "cask") && decide (x2 = "cask") && decide (f = "divmod") && Γ.glb f && (Γ.fids.lookup f).isNone && decide (Γ.sc.names.lookup y = some .local) then (Γ.loc x).bind fun s => (Γ.loc y).map fun i => (s, i, b) else none
  | _, _ => none
def caskCell (x : Str) : Expr → Option Nat
  | .Constant (.int j) _ _ => if decide (x = "cask") && decide (0 ≤ j) && decide (j < 3) then some j.toNat else none
  | _ => none
mutual
def cmpS (Γ : Ctx) : Nat → Stmt → Option CS
  | 0, _ => none
  | n + 1, .Return none _ => some .retN
  | n + 1, .Return (some e) _ => (cmpE Γ n e).map .ret
  | n + 1, .Pass _ => some .pas
  | n + 1, .Break _ => some .brk
  | n + 1, .Continue _ => some .cnt
  | n + 1, .Raise _ _ _ => some .stuck
  | n + 1, .If c a b _ => (cmpE Γ n c).bind fun cc => (cmpSs Γ n a).bind fun ca => (cmpSs Γ n b).map fun cb => .iff cc ca cb
  | n + 1, .While c b [] _ => (cmpE Γ n c).bind fun cc => (cmpSs Γ n b).map fun cb => .whl cc cb
  | n + 1, .For tg it b [] _ => (cmpI Γ n tg it).bind fun ci => (cmpPat Γ n tg).bind fun p => (cmpSs Γ n b).map fun cb => .for_ p ci cb
  | n + 1, .Assign [.Name x _] (.Call (.Name f _) (.Name y _ :: es) [] _) _ => (match Γ.sc.names.lookup x with | some .local | some .cell => Γ.loc x | _ => none).bind fun i =>
      (match Γ.mks.lookup f with
      | some id => if Γ.glb f && isCask x && es.length ≤ 200 then (Γ.loc y).bind fun s => (cmpA Γ n es).map fun ca => .cask i id s ca else none
      | none => none)
  | _, _ => none
def cmpSs (Γ : Ctx) : Nat → List Stmt → Option CSs
  | 0, _ => none
  | n + 1, [] => some .nil
  | n + 1, s :: r => (cmpS' Γ n s).bind fun c => (cmpSs Γ n r).map fun cr => .cons c cr
/-- all of a statement's forms -/
def cmpS' (Γ : Ctx) : Nat → Stmt → Option CS
  | 0, _ => none
  | n + 1, s => match cmpS Γ n s with
    | some c => some c
    | none => match s with
      | .Assign [.Tuple ts _ _] (.Call (.Attribute (.Name x _) m ap) [] [] pos) _ => if decide (m = "pop") && ap.endLine == pos.line then
          (Γ.loc x).bind fun i => (cmpPatL Γ n ts).map fun p => .popT p i else none
      | .Assign [.Tuple ts _ _] (.Tuple vs _ _) _ => if vs.length ≤ 200 then
          (match locNames Γ ts with
          | some is => if (nodupNames ts).isSome && is.length == vs.length && (swapsT Γ ts vs || noSwap Γ ts vs) then (cmpA Γ n vs).map fun ca => .par is ca else none
          | none => if noSwap Γ ts vs then (cmpPatL Γ n ts).bind fun p => (cmpA Γ n vs).map fun ca => .unp p (.tup ca) else none)
        else none
      | .Assign [.Tuple ts _ _] e _ => match divC Γ ts e with
        | some (s, i, b) => (cmpE Γ n b).map fun cb => .ckD s i cb
        | none => (cmpPatL Γ n ts).bind fun p => (cmpE Γ n e).map fun ce => .unp p ce
      | .Assign [.Subscript (.Name x _) ix _] e _ => match caskCell x ix with
        | some j => (Γ.loc x).bind fun s => (cmpE Γ n e).map fun ce => .ckS s j ce
        | none => (Γ.loc x).bind fun i => (cmpE Γ n ix).bind fun ci => (cmpE Γ n e).map fun ce => .setI i ci ce
      | .Assign [.Name x _] e _ => (match Γ.sc.names.lookup x with | some .local | some .cell => Γ.loc x | _ => none).bind fun i => (cmpE Γ n e).map fun ce => .asg i ce
      | .Expr (.Call (.Attribute (.Name y _) m2 ap2) [.Call (.Attribute (.Name x _) m ap) [ix] [] pos] [] pos2) _ => if decide (m2 = "append") && decide (m = "pop") && ap.endLine == pos.line && ap2.endLine == pos2.line then
          (Γ.loc y).bind fun i => (Γ.loc x).bind fun j => (cmpE Γ n ix).map fun ci => .popA i j ci else none
      | .Expr (.Call (.Attribute (.Name x _) m ap) [e] [] pos) _ => if decide (m = "append") && ap.endLine == pos.line then
          (Γ.loc x).bind fun i => (cmpE Γ n e).map fun ce => .app i ce else none
      | .Expr (.Call (.Attribute (.Name x _) m ap) [] [] pos) _ => if decide (m = "pop") && ap.endLine == pos.line then
          (Γ.loc x).map fun i => .popE i else none
      | .Expr (.Call f es ks pos) _ => (cmpE Γ n (.Call f es ks pos)).map fun ce => .exc ce
      | _ => none
end
end Dn
set_option Elab.async false
set_option linter.all false
set_option maxRecDepth 100000
/-! Dn3: the small language is kept by the machine: data in a heap, the state, readings. -/
namespace Dn
open PySem PySem.Spec PyProof.Rows L2
abbrev St := L2.St

/-! ### heaps -/
def hide (S : List Addr) (H : Hp) : Hp := fun a => if a ∈ S then none else H a
def SameX (cc : Option Addr) (H H' : Hp) : Prop := ∀ b o, cc ≠ some b → H b = some o → H' b = some o
theorem SameX.refl (cc : Option Addr) (H : Hp) : SameX cc H H := fun _ _ _ h => h
theorem SameX.trans {cc : Option Addr} {H H1 H2 : Hp} (a : SameX cc H H1) (b : SameX cc H1 H2) : SameX cc H H2 := fun c o n h => b c o n (a c o n h)
theorem SameX.upd {cc : Option Addr} {H : Hp} {p : Addr} {o : HO} (h : H p = none) : SameX cc H (upd H p o) := fun b u _ e => by
  rw [upd_ne (ne_of_none e h)]; exact e
theorem hide_same {S : List Addr} {cc : Option Addr} {H H' : Hp} (h : SameX cc H H') (hc : ∀ c, cc = some c → c ∈ S) : Same (hide S H) (hide S H') := fun b o e => by
  unfold hide at e ⊢
  by_cases m : b ∈ S
  · rw [if_pos m] at e; cases e
  · rw [if_neg m] at e ⊢
    exact h b o (fun z => m (hc b z)) e
theorem hide_sub {S S' : List Addr} {H : Hp} (h : ∀ a, a ∈ S → a ∈ S') : Same (hide S' H) (hide S H) := fun b o e => by
  unfold hide at e ⊢
  by_cases m : b ∈ S'
  · rw [if_pos m] at e; cases e
  · rw [if_neg m] at e
    rw [if_neg fun z => m (h b z)]; exact e
theorem hide_le {S : List Addr} {H : Hp} : Same (hide S H) H := fun b o e => by
  unfold hide at e
  by_cases m : b ∈ S
  · rw [if_pos m] at e; cases e
  · rw [if_neg m] at e; exact e
theorem hide_upd_in {S : List Addr} {H : Hp} {p : Addr} {o : HO} (h : p ∈ S) : hide S (upd H p o) = hide S H := by
  funext b
  unfold hide
  by_cases m : b ∈ S
  · rw [if_pos m, if_pos m]
  · rw [if_neg m, if_neg m, upd_ne (fun z => m (by rw [z]; exact h))]
/-- a new object at p, hidden -/
theorem hide_new {S : List Addr} {H : Hp} {p : Addr} {o : HO} (h : H p = none) : Same (hide S H) (hide (p :: S) (upd H p o)) := fun b u e => by
  unfold hide at e ⊢
  by_cases m : b ∈ S
  · rw [if_pos m] at e; cases e
  · rw [if_neg m] at e
    have hb : b ≠ p := ne_of_none e h
    rw [if_neg (by intro z; rcases List.mem_cons.mp z with z | z; exact hb z; exact m z), upd_ne hb]
    exact e
theorem hide_at {S : List Addr} {H : Hp} {p : Addr} (h : p ∉ S) : hide S H p = H p := by unfold hide; rw [if_neg h]
theorem sameT {K : PySem.W.Frag} {H H' : Hp} {a : Addr} {xs : List V} (e : Same H H') (h : SqT K H a xs) : SqT K H' a xs := by
  rcases h with (h | ⟨o, h⟩) | h
  · exact .inl (.inl (e _ _ h))
  · exact .inl (.inr ⟨o, e _ _ h⟩)
  · exact .inr h
mutual
/-- v is the data d in H; its lists are tracked -/
inductive Dq (K : PySem.W.Frag) (H : Hp) : V → PyData → Prop
  | non : Dq K H .non .none
  | bl (b : Bool) : Dq K H (.bl b) (.bool b)
  | int (i : Int) : Dq K H (.int i) (.int i)
  | str (x : Str) : Dq K H (.str x) (.str x)
  | lst {a : Addr} {xs : List V} {ds : List PyData} : H a = some (.lst xs) → DqAll K H xs ds → Dq K H (.ref a) (.list ds)
  | tup {a : Addr} {xs : List V} {ds : List PyData} : SqT K H a xs → DqAll K H xs ds → Dq K H (.ref a) (.tuple ds)
inductive DqAll (K : PySem.W.Frag) (H : Hp) : List V → List PyData → Prop
  | nil : DqAll K H [] []
  | cons {v : V} {vs : List V} {d : PyData} {ds : List PyData} : Dq K H v d → DqAll K H vs ds → DqAll K H (v :: vs) (d :: ds)
end
mutual
theorem dq_mono {K : PySem.W.Frag} {H H' : Hp} (e : Same H H') : ∀ (d : PyData) (v : V), Dq K H v d → Dq K H' v d
  | .none, _, h => by cases h; exact .non
  | .bool b, _, h => by cases h; exact .bl b
  | .int i, _, h => by cases h; exact .int i
  | .str x, _, h => by cases h; exact .str x
  | .list ds, _, h => by
    cases h with
    | lst hs ha => exact .lst (e _ _ hs) (dqAll_mono e ds _ ha)
  | .tuple ds, _, h => by
    cases h with
    | tup hs ha => exact .tup (sameT e hs) (dqAll_mono e ds _ ha)
  | .dict _, _, h => by cases h
theorem dqAll_mono {K : PySem.W.Frag} {H H' : Hp} (e : Same H H') : ∀ (ds : List PyData) (vs : List V), DqAll K H vs ds → DqAll K H' vs ds
  | [], _, h => by cases h; exact .nil
  | d :: ds, _, h => by
    cases h with
    | cons h1 h2 => exact .cons (dq_mono e d _ h1) (dqAll_mono e ds _ h2)
end
mutual
theorem dq_dp {K : PySem.W.Frag} {H : Hp} : ∀ (d : PyData) (v : V), Dq K H v d → Dp K H v d
  | .none, _, h => by cases h; exact .non
  | .bool b, _, h => by cases h; exact .bl b
  | .int i, _, h => by cases h; exact .int i
  | .str x, _, h => by cases h; exact .str x
  | .list ds, _, h => by
    cases h with
    | lst hs ha => exact .lst (SqL.of hs) (dqAll_dp ds _ ha)
  | .tuple ds, _, h => by
    cases h with
    | tup hs ha => exact .tup hs (dqAll_dp ds _ ha)
  | .dict _, _, h => by cases h
theorem dqAll_dp {K : PySem.W.Frag} {H : Hp} : ∀ (ds : List PyData) (vs : List V), DqAll K H vs ds → DpAll K H vs ds
  | [], _, h => by cases h; exact .nil
  | d :: ds, _, h => by
    cases h with
    | cons h1 h2 => exact .cons (dq_dp d _ h1) (dqAll_dp ds _ h2)
end
theorem da_len {K : PySem.W.Frag} {H : Hp} : ∀ {vs : List V} {ds : List PyData}, DqAll K H vs ds → vs.length = ds.length
  | _, _, .nil => rfl
  | _, _, .cons _ h => by simp [da_len h]
theorem da_get {K : PySem.W.Frag} {H : Hp} : ∀ {vs : List V} {ds : List PyData} {i : Nat} {d : PyData}, DqAll K H vs ds → ds[i]? = some d → ∃ v, vs[i]? = some v ∧ Dq K H v d
  | _, _, _, _, .nil, e => by simp at e
  | _, _, 0, _, .cons h _, e => by simp at e; subst e; exact ⟨_, rfl, h⟩
  | _, _, i + 1, _, .cons _ t, e => by
    obtain ⟨v, h1, h2⟩ := da_get (i := i) t (by simpa using e)
    exact ⟨v, by simpa using h1, h2⟩
theorem da_get2 {K : PySem.W.Frag} {H : Hp} : ∀ {vs : List V} {ds : List PyData} {i : Nat} {v : V}, DqAll K H vs ds → vs[i]? = some v → ∃ d, ds[i]? = some d ∧ Dq K H v d
  | _, _, _, _, .nil, e => by simp at e
  | _, _, 0, _, .cons h _, e => by simp at e; subst e; exact ⟨_, rfl, h⟩
  | _, _, i + 1, _, .cons _ t, e => by
    obtain ⟨v, h1, h2⟩ := da_get2 (i := i) t (by simpa using e)
    exact ⟨v, by simpa using h1, h2⟩
theorem da_app {K : PySem.W.Frag} {H : Hp} : ∀ {vs ws : List V} {ds es : List PyData}, DqAll K H vs ds → DqAll K H ws es → DqAll K H (vs ++ ws) (ds ++ es)
  | _, _, _, _, .nil, h => h
  | _, _, _, _, .cons h1 h2, h => .cons h1 (da_app h2 h)
theorem da_take {K : PySem.W.Frag} {H : Hp} : ∀ {vs : List V} {ds : List PyData} (n : Nat), DqAll K H vs ds → DqAll K H (vs.take n) (ds.take n)
  | _, _, 0, _ => by simp; exact .nil
  | _, _, n + 1, .nil => by simp; exact .nil
  | _, _, n + 1, .cons h1 h2 => .cons h1 (da_take n h2)
theorem da_drop {K : PySem.W.Frag} {H : Hp} : ∀ {vs : List V} {ds : List PyData} (n : Nat), DqAll K H vs ds → DqAll K H (vs.drop n) (ds.drop n)
  | _, _, 0, h => h
  | _, _, n + 1, .nil => .nil
  | _, _, n + 1, .cons _ h2 => da_drop n h2
theorem da_set {K : PySem.W.Frag} {H : Hp} {v : V} {d : PyData} (h : Dq K H v d) : ∀ {vs : List V} {ds : List PyData} (n : Nat), DqAll K H vs ds → DqAll K H (vs.set n v) (ds.set n d)
  | _, _, _, .nil => .nil
  | _, _, 0, .cons _ h2 => .cons h h2
  | _, _, n + 1, .cons h1 h2 => .cons h1 (da_set h n h2)
theorem da_erase {K : PySem.W.Frag} {H : Hp} : ∀ {vs : List V} {ds : List PyData} (n : Nat), DqAll K H vs ds → DqAll K H (vs.eraseIdx n) (ds.eraseIdx n)
  | _, _, _, .nil => .nil
  | _, _, 0, .cons _ h2 => h2
  | _, _, n + 1, .cons h1 h2 => .cons h1 (da_erase n h2)
theorem da_rev {K : PySem.W.Frag} {H : Hp} : ∀ {vs : List V} {ds : List PyData}, DqAll K H vs ds → DqAll K H vs.reverse ds.reverse
  | _, _, .nil => .nil
  | _, _, .cons h1 h2 => by
    rw [List.reverse_cons, List.reverse_cons]
    exact da_app (da_rev h2) (.cons h1 .nil)
theorem da_dropLast {K : PySem.W.Frag} {H : Hp} {vs : List V} {ds : List PyData} (h : DqAll K H vs ds) : DqAll K H vs.dropLast ds.dropLast := by
  rw [List.dropLast_eq_take, List.dropLast_eq_take, da_len h]
  exact da_take _ h
theorem da_rep {K : PySem.W.Frag} {H : Hp} {vs : List V} {ds : List PyData} (h : DqAll K H vs ds) : ∀ k : Nat, DqAll K H (List.replicate k vs).flatten (List.replicate k ds).flatten
  | 0 => .nil
  | k + 1 => by
    rw [List.replicate_succ, List.replicate_succ, List.flatten_cons, List.flatten_cons]
    exact da_app h (da_rep h k)
theorem da_bools {K : PySem.W.Frag} {H : Hp} : ∀ {vs : List V} {ds : List PyData} {bs : List Bool}, DqAll K H vs ds → boolsD ds = some bs → vs = bs.map V.bl
  | _, _, _, .nil, e => by simp [boolsD] at e; subst e; rfl
  | _, d :: ds, _, .cons h1 h2, e => by
    cases d with
    | bool b =>
      simp only [boolsD, Option.map_eq_some_iff] at e
      obtain ⟨r, e1, e2⟩ := e
      subst e2
      cases h1
      rw [da_bools h2 e1]; rfl
    | _ => simp [boolsD] at e

/-! ### the state -/
def encK (k : KS) : List V := [.int k.1, .int k.2.1, .int k.2.2]
def CkOk (cc : Option Addr) (k : KS) (H : Hp) : Prop := ∀ c, cc = some c → H c = some (.lst (encK k))
/-- a def's entry: the cask handed in, the heap, what the callers hide -/
structure En where
  cc : Option Addr
  H : Hp
  S : List Addr
section
variable (K : PySem.W.Frag)
def SlOk (en : En) (S : List Addr) (cc : Option Addr) (H : Hp) (v : Option (Option V)) : Sl → Prop
  | .un => True
  | .dat false d => ∃ x, v = some (some x) ∧ Dq K (hide S H) x d
  | .dat true d => ∃ a xs ds, v = some (some (.ref a)) ∧ d = .list ds ∧ a ∈ S ∧ H a = some (.lst xs) ∧ DqAll K (hide S H) xs ds ∧ en.H a = none ∧ cc ≠ some a
  | .csk => ∃ c, v = some (some (.ref c)) ∧ cc = some c
  | .scr ns => ∃ a, v = some (some (.ref a)) ∧ SqL K H a (ns.map V.int) ∧ ((cc ≠ some a ∧ en.H a ≠ none) ∨ ∀ H', SqL K H' a (ns.map V.int))
structure SR (en : En) (S : List Addr) (cc : Option Addr) (env : DEnv) (k : KS) (σ : St) (H : Hp) : Prop where
  same : SameX en.cc en.H H
  sub : ∀ a ∈ en.S, a ∈ S
  s0 : ∀ a ∈ en.S, en.H a ≠ none
  trk : ∀ a ∈ S, H a ≠ none
  ck : ∀ c, cc = some c → c ∈ S ∧ H c = some (.lst (encK k)) ∧ (en.cc = some c ∨ en.H c = none)
  ec : ∀ c, en.cc = some c → H c ≠ none
  len : env.length = σ.length
  slots : ∀ (i : Nat) (s : Sl), env[i]? = some s → SlOk K en S cc H (σ[i]?) s
  inj : ∀ (i j : Nat) (a : Addr) (d e : PyData), env[i]? = some (.dat true d) → env[j]? = some (.dat true e) → σ[i]? = some (some (.ref a)) → σ[j]? = some (some (.ref a)) → i = j
/-- readable data: data, or an own list of data -/
def RdOk (S : List Addr) (cc : Option Addr) (H : Hp) (v : V) (d : PyData) : Prop :=
  Dq K (hide S H) v d ∨ ∃ a xs ds, v = .ref a ∧ d = .list ds ∧ a ∈ S ∧ H a = some (.lst xs) ∧ DqAll K (hide S H) xs ds ∧ cc ≠ some a
inductive RdAll (S : List Addr) (cc : Option Addr) (H : Hp) : List V → List PyData → Prop
  | nil : RdAll S cc H [] []
  | cons {v vs d ds} : RdOk K S cc H v d → RdAll S cc H vs ds → RdAll S cc H (v :: vs) (d :: ds)
end
section
variable {K : PySem.W.Frag} {en : En} {S : List Addr} {cc : Option Addr} {env : DEnv} {k k' : KS} {σ : St} {H H' : Hp}
theorem SR.ckS (R : SR K en S cc env k σ H) : ∀ c, cc = some c → c ∈ S := fun c e => (R.ck c e).1
theorem SR.ckk (R : SR K en S cc env k σ H) : CkOk cc k H := fun c e => (R.ck c e).2.1
theorem SlOk.grow {v : Option (Option V)} {s : Sl} (h : SlOk K en S cc H v s) (e : SameX cc H H') (hc : ∀ c, cc = some c → c ∈ S) : SlOk K en S cc H' v s := by
  cases s with
  | un => trivial
  | csk => exact h
  | scr ns =>
    obtain ⟨a, h1, h2, h3⟩ := h
    refine ⟨a, h1, ?_, h3⟩
    rcases h3 with ⟨h3, _⟩ | h3
    · rcases h2 with (h2 | ⟨o, h2⟩) | h2
      · exact .inl (.inl (e _ _ h3 h2))
      · exact .inl (.inr ⟨o, e _ _ h3 h2⟩)
      · exact .inr h2
    · exact h3 _
  | dat o d =>
    cases o with
    | false =>
      obtain ⟨x, h1, h2⟩ := h
      exact ⟨x, h1, dq_mono (hide_same e hc) _ _ h2⟩
    | true =>
      obtain ⟨a, xs, ds, h1, h2, h3, h4, h5, h6, h7⟩ := h
      exact ⟨a, xs, ds, h1, h2, h3, e a _ h7 h4, dqAll_mono (hide_same e hc) _ _ h5, h6, h7⟩
theorem SR.grow (R : SR K en S cc env k σ H) (e : SameX cc H H') (c : CkOk cc k' H') : SR K en S cc env k' σ H' where
  same := fun b o n h => by
    by_cases z : cc = some b
    · rcases (R.ck b z).2.2 with q | q
      · exact absurd q n
      · rw [q] at h; cases h
    · exact e b o z (R.same b o n h)
  sub := R.sub
  s0 := R.s0
  trk := fun a ha => by
    by_cases z : cc = some a
    · rw [c a z]; simp
    · have q := R.trk a ha
      cases r : H a with
      | none => exact absurd r q
      | some o => rw [e a o z r]; simp
  ck := fun a z => ⟨(R.ck a z).1, c a z, (R.ck a z).2.2⟩
  ec := fun a z => by
    by_cases y : cc = some a
    · rw [c a y]; simp
    · have q := R.ec a z
      cases r : H a with
      | none => exact absurd r q
      | some o => rw [e a o y r]; simp
  len := R.len
  slots := fun i s h => (R.slots i s h).grow e R.ckS
  inj := R.inj
theorem RdOk.grow {v : V} {d : PyData} (h : RdOk K S cc H v d) (e : SameX cc H H') (hc : ∀ c, cc = some c → c ∈ S) : RdOk K S cc H' v d := by
  rcases h with h | ⟨a, xs, ds, h1, h2, h3, h4, h5, h6⟩
  · exact .inl (dq_mono (hide_same e hc) _ _ h)
  · exact .inr ⟨a, xs, ds, h1, h2, h3, e a _ h6 h4, dqAll_mono (hide_same e hc) _ _ h5, h6⟩
theorem RdAll.grow {vs : List V} {ds : List PyData} (h : RdAll K S cc H vs ds) (e : SameX cc H H') (hc : ∀ c, cc = some c → c ∈ S) : RdAll K S cc H' vs ds := by
  induction h with
  | nil => exact .nil
  | cons h1 _ ih => exact .cons (h1.grow e hc) ih
theorem RdOk.full {v : V} {d : PyData} (h : RdOk K S cc H v d) : Dq K H v d := by
  rcases h with h | ⟨a, xs, ds, rfl, rfl, h3, h4, h5, h6⟩
  · exact dq_mono hide_le _ _ h
  · exact .lst h4 (dqAll_mono hide_le _ _ h5)
theorem RdOk.list {v : V} {ds : List PyData} (h : RdOk K S cc H v (.list ds)) : ∃ a xs, v = .ref a ∧ H a = some (.lst xs) ∧ DqAll K (hide S H) xs ds := by
  rcases h with h | ⟨a, xs, es, rfl, e, h3, h4, h5, h6⟩
  · cases h with
    | lst hs ha => exact ⟨_, _, rfl, hide_le _ _ hs, ha⟩
  · cases e
    exact ⟨a, xs, rfl, h4, h5⟩
theorem RdOk.tup {v : V} {ds : List PyData} (h : RdOk K S cc H v (.tuple ds)) : ∃ a xs, v = .ref a ∧ SqT K H a xs ∧ DqAll K (hide S H) xs ds := by
  rcases h with h | ⟨a, xs, es, rfl, e, h3, h4, h5, h6⟩
  · cases h with
    | tup hs ha => exact ⟨_, _, rfl, sameT hide_le hs, ha⟩
  · cases e
theorem RdOk.int {v : V} {i : Int} (h : RdOk K S cc H v (.int i)) : v = .int i := by
  rcases h with h | ⟨a, xs, es, rfl, e, _⟩
  · cases h; rfl
  · cases e
theorem RdOk.bl {v : V} {b : Bool} (h : RdOk K S cc H v (.bool b)) : v = .bl b := by
  rcases h with h | ⟨a, xs, es, rfl, e, _⟩
  · cases h; rfl
  · cases e
theorem RdOk.none_iff {v : V} {d : PyData} (h : RdOk K S cc H v d) : decide (v = .non) = isNone d := by
  rcases h with h | ⟨a, xs, es, rfl, rfl, _⟩
  · cases h <;> simp [isNone]
  · simp [isNone]
theorem RdAll.of {vs : List V} {ds : List PyData} (h : DqAll K (hide S H) vs ds) : RdAll K S cc H vs ds := by
  induction ds generalizing vs with
  | nil => cases h; exact .nil
  | cons d ds ih =>
    cases h with
    | cons h1 h2 => exact .cons (.inl h1) (ih h2)
end
end Dn
set_option Elab.async false
set_option linter.all false
set_option maxRecDepth 100000
/-! Dn4: readings of the small language's expressions, and the rules. -/
namespace Dn
open PySem PySem.Spec PyProof.Rows L2

theorem pe_imp {X : Cx} {e : Expr} {t t' : TE} (h : PE X e t) (i : ∀ σ H Q, t' σ H Q → t σ H Q) : PE X e t' := ⟨fun pins s σ H Q I q => h.run pins s σ H Q I (i _ _ _ q)⟩
theorem pt_imp {X : Cx} {e : Expr} {t t' : TT} (h : PT X e t) (i : ∀ σ H Q, t' σ H Q → t σ H Q) : PT X e t' := ⟨fun pins s σ H Q I q => h.run pins s σ H Q I (i _ _ _ q)⟩
theorem pw_imp {X : Cx} {e : Expr} {t t' : TT} (h : PW X e t) (i : ∀ σ H Q, t' σ H Q → t σ H Q) : PW X e t' := ⟨fun wh pins s σ H Q I q => h.run wh pins s σ H Q I (i _ _ _ q)⟩
theorem pa_imp {X : Cx} {e : List Expr} {t t' : TA} (h : PA X e t) (i : ∀ σ H Q, t' σ H Q → t σ H Q) : PA X e t' := ⟨fun pos pins s σ H Q I q => h.run pos pins s σ H Q I (i _ _ _ q)⟩
theorem pi_imp {X : Cx} {tg e : Expr} {t t' : TI} (h : PI X tg e t) (i : ∀ σ H Q, t' σ H Q → t σ H Q) : PI X tg e t' := ⟨fun pins s σ H Q I q => h.run pins s σ H Q I (i _ _ _ q)⟩

section
variable (Φ : Phi) (G : Glo) (K : PySem.W.Frag)
def FreshOk (S : List Addr) (H0 H' : Hp) (v : V) (d : PyData) : Prop :=
  ∃ p vs ds, v = .ref p ∧ H0 p = none ∧ H' p = some (.lst vs) ∧ d = .list ds ∧ DqAll K (hide (p :: S) H') vs ds
def VOk (S : List Addr) (cc : Option Addr) (H0 H' : Hp) (m : Bool) (c : CE) (v : V) (d : PyData) : Prop :=
  if m = true then RdOk K S cc H' v d else Dq K (hide S H') v d ∧ (c.fresh d = true → FreshOk K S H0 H' v d)
/-- an expression's reading -/
def T (m : Bool) (c : CE) : TE := fun σ H Q => ∃ en S cc env k d k', SR K en S cc env k σ H ∧ den Φ G c m env k = some (d, k') ∧
  ∀ v H', SameX cc H H' → CkOk cc k' H' → VOk K S cc H H' m c v d → Q v H'
def TAs (m : Bool) (c : CA) : TA := fun σ H Q => ∃ en S cc env k ds k', SR K en S cc env k σ H ∧ denA Φ G c m env k = some (ds, k') ∧
  ∀ vs H', SameX cc H H' → CkOk cc k' H' → (if m = true then RdAll K S cc H' vs ds else DqAll K (hide S H') vs ds) → Q vs H'
/-- a test's -/
def TB (c : CE) : TT := fun σ H Q => ∃ en S cc env k b k', SR K en S cc env k σ H ∧ den Φ G c true env k = some (.bool b, k') ∧
  ∀ H', SameX cc H H' → CkOk cc k' H' → Q b H'
end

section
variable {Φ : Phi} {G : Glo} {K : PySem.W.Frag} {en : En} {S : List Addr} {cc : Option Addr} {env : DEnv} {k k' : KS} {σ : St} {H H1 H' : Hp}
theorem SR.not_none (R : SR K en S cc env k σ H) {p : Addr} (h : H p = none) : p ∉ S ∧ cc ≠ some p := ⟨fun m => R.trk p m h, fun z => R.trk p (R.ckS p z) h⟩
/-- a new object -/
theorem SR.alloc (R : SR K en S cc env k σ H) {p : Addr} {o : HO} (h : H p = none) :
    SameX cc H (upd H p o) ∧ CkOk cc k (upd H p o) ∧ p ∉ S ∧ Same (hide S H) (hide S (upd H p o)) ∧ hide S (upd H p o) p = some o := by
  obtain ⟨h1, h2⟩ := R.not_none h
  refine ⟨SameX.upd h, fun c e => ?_, h1, hide_same (SameX.upd (cc := cc) h) R.ckS, ?_⟩
  · rw [upd_ne (fun z => h2 (by rw [← z]; exact e))]
    exact R.ckk c e
  · rw [hide_at h1, upd_same]
/-- .. that was new already ahead -/
theorem SR.none_back (R : SR K en S cc env k σ H) (e : SameX cc H H1) (c : CkOk cc k' H1) {p : Addr} (h : H1 p = none) : H p = none := by
  cases q : H p with
  | none => rfl
  | some o =>
    by_cases z : cc = some p
    · rw [c p z] at h; cases h
    · rw [e p o z q] at h; cases h
theorem VOk.rd {m : Bool} {c : CE} {v : V} {d : PyData} (h : VOk K S cc H H' m c v d) : RdOk K S cc H' v d := by
  unfold VOk at h
  cases m with
  | true => exact h
  | false => exact .inl h.1
theorem VOk.dq {c : CE} {v : V} {d : PyData} (h : VOk K S cc H H' false c v d) : Dq K (hide S H') v d := h.1
/-- what gives no list of its own -/
theorem VOk.of {m : Bool} {c : CE} {v : V} {d : PyData} (h : Dq K (hide S H') v d) (f : c.fresh d = false) : VOk K S cc H H' m c v d := by
  unfold VOk
  cases m with
  | true => exact .inl h
  | false => exact ⟨h, fun q => by rw [f] at q; cases q⟩
/-- a list just made -/
theorem VOk.mk {m : Bool} {c : CE} {d : PyData} {v : V} (h : FreshOk K S H H' v d) (hS : ∀ p, H p = none → p ∉ S) : VOk K S cc H H' m c v d := by
  have q : Dq K (hide S H') v d := by
    obtain ⟨p, vs, ds, rfl, h1, h2, rfl, h3⟩ := h
    refine .lst ?_ (dqAll_mono (hide_sub fun a z => List.mem_cons_of_mem _ z) _ _ h3)
    rw [hide_at (hS p h1)]; exact h2
  unfold VOk
  cases m with
  | true => exact .inl q
  | false => exact ⟨q, fun _ => h⟩
end

section
variable {X : Cx} {Φ : Phi} {G : Glo} {e a b : Expr} {es : List Expr} {c ca cb : CE} {pos : Pos} {m : Bool}

theorem t_var {i : Nat} {x : Str} (hN : X.N[i]? = some x) (hv : Vis X.env.scope x) (hd : (x == ("__debug__" : Str)) = false) (hcd : (x == ("__classdict__" : Str)) = false) : PE X (.Name x pos) (T Φ G X.K m (.var i)) := by
  refine pe_imp (pe_var hN hv hd hcd) fun σ H Q h => ?_
  obtain ⟨en, S, cc, env, k, d, k', R, hden, q⟩ := h
  simp only [den] at hden
  cases he : env[i]? with
  | none => rw [he] at hden; simp at hden
  | some s =>
    rw [he] at hden
    have sl := R.slots i s he
    cases s with
    | dat o dd =>
      cases o with
      | false =>
        simp only [Bool.false_and, Bool.false_eq_true, if_false, Option.some.injEq, Prod.mk.injEq] at hden
        obtain ⟨rfl, rfl⟩ := hden
        obtain ⟨x, h1, h2⟩ := sl
        exact ⟨x, h1, q x H (SameX.refl _ _) R.ckk (.of h2 rfl)⟩
      | true =>
        cases m with
        | false => simp at hden
        | true =>
          simp only [Bool.not_true, Bool.and_false, Bool.false_eq_true, if_false, Option.some.injEq, Prod.mk.injEq] at hden
          obtain ⟨rfl, rfl⟩ := hden
          obtain ⟨p, xs, ds, h1, rfl, h3, h4, h5, h6, h7⟩ := sl
          refine ⟨.ref p, h1, q _ H (SameX.refl _ _) R.ckk ?_⟩
          show RdOk _ _ _ _ _ _
          exact .inr ⟨p, xs, ds, rfl, rfl, h3, h4, h5, h7⟩
    | un => simp at hden
    | csk => simp at hden
    | scr ns => simp at hden
/-- a constant -/
theorem t_con {v : V} {d : PyData} (h : PE X e (tC v)) (hd : ∀ H, Dq X.K H v d) (f : c.fresh d = false) (hden : ∀ m env k, den Φ G c m env k = some (d, k)) : PE X e (T Φ G X.K m c) := by
  refine pe_imp h fun σ H Q h => ?_
  obtain ⟨en, S, cc, env, k, d', k', R, hq, q⟩ := h
  rw [hden] at hq
  cases hq
  exact q v H (SameX.refl _ _) R.ckk (.of (hd _) f)
theorem t_int {i : Int} {j} : PE X (.Constant (.int i) j pos) (T Φ G X.K m (.int i)) := t_con pe_int (fun _ => .int i) rfl fun _ _ _ => by simp only [den]
theorem t_bl {i : Bool} {j} : PE X (.Constant (.bool i) j pos) (T Φ G X.K m (.bl i)) := t_con pe_bl (fun _ => .bl i) rfl fun _ _ _ => by simp only [den]
theorem t_non {j} : PE X (.Constant .none j pos) (T Φ G X.K m .non) := t_con pe_non (fun _ => .non) rfl fun _ _ _ => by simp only [den]
theorem t_str {i : Str} {j} : PE X (.Constant (.str i) j pos) (T Φ G X.K m (.str i)) := t_con pe_str (fun _ => .str i) rfl fun _ _ _ => by simp only [den]
theorem t_glo {x : Str} {g : Nat} {v : V} {u : Value} {d : PyData} (hg : Gl X x) (hm : X.mg x = some u) (r : RelV v u) (hd : (x == ("__debug__" : Str)) = false) (hG : G g = some d) (hv : ∀ H, Dq X.K H v d)
    (f : (CE.glo g).fresh d = false := by rfl) : PE X (.Name x pos) (T Φ G X.K m (.glo g)) := t_con (pe_glob hg hm r hd) hv f fun _ _ _ => by simp only [den, hG, Option.map_some]

/-! ### arguments -/
theorem ta_nil : PA X [] (TAs Φ G X.K m .nil) := pa_imp pa_nil fun σ H Q h => by
  obtain ⟨en, S, cc, env, k, d, k', R, hden, q⟩ := h
  simp only [denA, Option.some.injEq, Prod.mk.injEq] at hden
  obtain ⟨rfl, rfl⟩ := hden
  refine q [] H (SameX.refl _ _) R.ckk ?_
  split
  · exact .nil
  · exact .nil
theorem ta_cons {r : CA} (h1 : PE X e (T Φ G X.K m c)) (h2 : PA X es (TAs Φ G X.K m r)) (hs : starEach (e :: es) X.env = (false, eval e X.env) :: starEach es X.env) : PA X (e :: es) (TAs Φ G X.K m (.cons c r)) := by
  refine pa_imp (pa_cons h1 h2 hs) fun σ H Q h => ?_
  obtain ⟨en, S, cc, env, k, d, k', R, hden, q⟩ := h
  simp only [denA, Option.bind_eq_some_iff, Option.map_eq_some_iff] at hden
  obtain ⟨⟨d1, k1⟩, e1, ⟨ds, k2⟩, e2, e3⟩ := hden
  simp only [Prod.mk.injEq] at e3
  obtain ⟨rfl, rfl⟩ := e3
  refine ⟨en, S, cc, env, k, d1, k1, R, e1, fun v H1 s1 c1 v1 => ?_⟩
  have R1 := R.grow s1 c1
  refine ⟨en, S, cc, env, k1, ds, k2, R1, e2, fun vs H2 s2 c2 v2 => ?_⟩
  refine q (v :: vs) H2 (s1.trans s2) c2 ?_
  cases m with
  | true => exact .cons (v1.rd.grow s2 R.ckS) v2
  | false => exact .cons (dq_mono (hide_same s2 R.ckS) _ _ v1.dq) v2

def CA.len : CA → Nat
  | .nil => 0
  | .cons _ r => r.len + 1
theorem denA_len : ∀ (a : CA) (m : Bool) (env : DEnv) (k : KS) (ds : List PyData) (k' : KS), denA Φ G a m env k = some (ds, k') → ds.length = a.len
  | .nil, _, _, _, _, _, h => by simp only [denA, Option.some.injEq, Prod.mk.injEq] at h; rw [← h.1]; rfl
  | .cons e r, m, env, k, ds, k', h => by
    simp only [denA, Option.bind_eq_some_iff, Option.map_eq_some_iff] at h
    obtain ⟨⟨d1, k1⟩, e1, ⟨ds, k2⟩, e2, e3⟩ := h
    simp only [Prod.mk.injEq] at e3
    obtain ⟨rfl, rfl⟩ := e3
    rw [List.length_cons, denA_len r _ _ _ _ _ e2]; rfl
theorem line_ok {n : Nat} (h : n ≤ 1000000) : n ≤ sizeLine := Nat.le_trans h (by decide)

theorem t_tup {r : CA} {x1} (h : PA X es (TAs Φ G X.K false r)) (hl : r.len ≤ 1000000) : PE X (.Tuple es x1 pos) (T Φ G X.K m (.tup r)) := by
  refine pe_imp (pe_tup h) fun σ H Q h => ?_
  obtain ⟨en, S, cc, env, k, d, k', R, hden, q⟩ := h
  simp only [den, Option.map_eq_some_iff] at hden
  obtain ⟨⟨ds, k1⟩, e1, e2⟩ := hden
  simp only [Prod.mk.injEq] at e2
  obtain ⟨rfl, rfl⟩ := e2
  refine ⟨en, S, cc, env, k, ds, k1, R, e1, fun vs H1 s1 c1 v1 => ?_⟩
  have v1' : DqAll X.K (hide S H1) vs ds := v1
  have R1 := R.grow s1 c1
  refine ⟨line_ok (by rw [da_len v1', denA_len _ _ _ _ _ _ e1]; exact hl), fun p hp => ?_⟩
  obtain ⟨a1, a2, a3, a4, a5⟩ := R1.alloc (o := .tup vs) hp
  exact q _ _ (s1.trans a1) a2 (.of (.tup (SqT.of a5) (dqAll_mono a4 _ _ v1')) rfl)
theorem t_lst {r : CA} (h : PA X es (TAs Φ G X.K false r)) (hl : r.len ≤ 1000000) : PE X (.List es pos) (T Φ G X.K m (.lst r)) := by
  refine pe_imp (pe_lst h) fun σ H Q h => ?_
  obtain ⟨en, S, cc, env, k, d, k', R, hden, q⟩ := h
  simp only [den, Option.map_eq_some_iff] at hden
  obtain ⟨⟨ds, k1⟩, e1, e2⟩ := hden
  simp only [Prod.mk.injEq] at e2
  obtain ⟨rfl, rfl⟩ := e2
  refine ⟨en, S, cc, env, k, ds, k1, R, e1, fun vs H1 s1 c1 v1 => ?_⟩
  have v1' : DqAll X.K (hide S H1) vs ds := v1
  have R1 := R.grow s1 c1
  refine ⟨line_ok (by rw [da_len v1', denA_len _ _ _ _ _ _ e1]; exact hl), fun p hp => ?_⟩
  obtain ⟨a1, a2, a3, a4, a5⟩ := R1.alloc (o := .lst vs) hp
  exact q _ _ (s1.trans a1) a2 (.mk ⟨p, vs, ds, rfl, R.none_back s1 c1 hp, upd_same, rfl, dqAll_mono (hide_new hp) _ _ v1'⟩ fun p h => (R.not_none h).1)

/-! ### two operands -/
/-- what a rule by values gives of two readable operands: an answer from (d1, d2) by f -/
def OpOk (X : Cx) (f : PyData → PyData → Option PyData) (c : CE) (r : R2) : Prop :=
  ∀ (en : En) (S : List Addr) (cc : Option Addr) (env : DEnv) (k : KS) (σ : St) (H : Hp) (x y : V) (d1 d2 d : PyData) (Q : VK), SR X.K en S cc env k σ H → RdOk X.K S cc H x d1 → RdOk X.K S cc H y d2 → f d1 d2 = some d →
    (∀ v H', SameX cc H H' → CkOk cc k H' → (Dq X.K (hide S H') v d ∧ (c.fresh d = true → FreshOk X.K S H H' v d)) → Q v H') → r x y H Q
theorem t_two {r : R2} {f : PyData → PyData → Option PyData} (h : PE X e (tOp r (T Φ G X.K true ca) (T Φ G X.K true cb))) (ho : OpOk X f c r)
    (hden : ∀ m env k, den Φ G c m env k = (den Φ G ca true env k).bind fun r => (den Φ G cb true env r.2).bind fun q => (f r.1 q.1).map fun d => (d, q.2)) : PE X e (T Φ G X.K m c) := by
  refine pe_imp h fun σ H Q h => ?_
  obtain ⟨en, S, cc, env, k, d, k', R, hq, q⟩ := h
  rw [hden] at hq
  simp only [Option.bind_eq_some_iff, Option.map_eq_some_iff] at hq
  obtain ⟨⟨d1, k1⟩, e1, ⟨d2, k2⟩, e2, d3, e3, e4⟩ := hq
  simp only [Prod.mk.injEq] at e4
  obtain ⟨rfl, rfl⟩ := e4
  refine ⟨en, S, cc, env, k, d1, k1, R, e1, fun x H1 s1 c1 v1 => ?_⟩
  have R1 := R.grow s1 c1
  refine ⟨en, S, cc, env, k1, d2, k2, R1, e2, fun y H2 s2 c2 v2 => ?_⟩
  have R2' := R1.grow s2 c2
  refine ho en S cc env k2 σ H2 x y d1 d2 d3 Q R2' (v1.rd.grow s2 R.ckS) v2.rd e3 fun v H' s3 c3 v3 => ?_
  refine q v H' ((s1.trans s2).trans s3) c3 ?_
  unfold VOk
  cases m with
  | true => exact .inl v3.1
  | false =>
    refine ⟨v3.1, fun z => ?_⟩
    obtain ⟨p, vs, ds, h1, h2, h3⟩ := v3.2 z
    exact ⟨p, vs, ds, h1, R.none_back s1 c1 (R1.none_back s2 c2 h2), h3⟩
/-- an answer that is no list of its own, and the heap is as it was -/
theorem OpOk.plain {f : PyData → PyData → Option PyData} {r : R2} (h : ∀ (S : List Addr) (cc : Option Addr) (H : Hp) (x y : V) (d1 d2 d : PyData) (Q : VK), RdOk X.K S cc H x d1 → RdOk X.K S cc H y d2 → f d1 d2 = some d →
    (∀ v, Dq X.K (hide S H) v d → Q v H) → r x y H Q) (hf : ∀ d1 d2 d, f d1 d2 = some d → c.fresh d = false) : OpOk X f c r := by
  intro en S cc env k σ H x y d1 d2 d Q R hx hy hd q
  exact h S cc H x y d1 d2 d Q hx hy hd fun v hv => q v H (SameX.refl _ _) R.ckk ⟨hv, fun z => by rw [hf _ _ _ hd] at z; cases z⟩

/-! ### + - * // % -/
theorem OpR.or {f : Value → Value → Sem Value} {r r' : R2} (h : OpR X f r) (h' : OpR X f r') : OpR X f (fun x y H Q => r x y H Q ∨ r' x y H Q) := by
  intro pins s σ H x y v u Q I rx ry q
  rcases q with q | q
  · exact h pins s σ H x y v u Q I rx ry q
  · exact h' pins s σ H x y v u Q I rx ry q
abbrev rAddI : R2 := rI0 fun i j => .int (i + j)
def rAddD (K : PySem.W.Frag) : R2 := fun x y H Q => rAddI x y H Q ∨ rCat x y H Q ∨ rCatT K x y H Q
theorem op_addD : OpR X (binaryOp .Add) (rAddD X.K) := OpR.or op_add (OpR.or op_cat op_catT)
theorem lenOk_le {n : Nat} (h : lenOk n = true) : n ≤ 1000000 := of_decide_eq_true h
theorem ok_add : OpOk X (binD .add) (.bin .add ca cb) (rAddD X.K) := by
  intro en S cc env k σ H x y d1 d2 d Q R hx hy hd q
  cases d1 with
  | int i => cases d2 with
    | int j =>
      simp only [binD, Option.some.injEq] at hd
      subst hd
      obtain rfl := hx.int
      obtain rfl := hy.int
      exact .inl ⟨i, j, rfl, rfl, q _ H (SameX.refl _ _) R.ckk ⟨.int _, fun z => nomatch z⟩⟩
    | _ => simp [binD] at hd
  | list xs => cases d2 with
    | list ys =>
      simp only [binD] at hd
      split at hd
      case isFalse => cases hd
      case isTrue hl =>
        cases hd
        obtain ⟨a, vs, rfl, ha, hvs⟩ := hx.list
        obtain ⟨b, ws, rfl, hb, hws⟩ := hy.list
        refine .inr (.inl ⟨a, b, vs, ws, rfl, rfl, ha, hb, line_ok (by rw [da_len hvs, da_len hws]; exact lenOk_le hl), fun p hp => ?_⟩)
        obtain ⟨a1, a2, a3, a4, a5⟩ := R.alloc (o := .lst (vs ++ ws)) hp
        have hh := da_app hvs hws
        exact q _ _ a1 a2 ⟨.lst a5 (dqAll_mono a4 _ _ hh), fun _ => ⟨p, _, _, rfl, hp, upd_same, rfl, dqAll_mono (hide_new hp) _ _ hh⟩⟩
    | _ => simp [binD] at hd
  | tuple xs => cases d2 with
    | tuple ys =>
      simp only [binD] at hd
      split at hd
      case isFalse => cases hd
      case isTrue hl =>
        cases hd
        obtain ⟨hne, hl⟩ := Bool.and_eq_true_iff.mp hl
        have hx2 := hx
        obtain ⟨a, vs, rfl, ha, hvs⟩ := hx.tup
        obtain ⟨b, ws, rfl, hb, hws⟩ := hy.tup
        have l1 := da_len hvs
        have l2 := da_len hws
        refine .inr (.inr ⟨a, b, vs, ws, rfl, rfl, ha, hb, fun z => ?_, line_ok (by rw [da_len hvs, da_len hws]; exact lenOk_le hl), fun z => ?_, fun _ p hp => ?_⟩)
        · rw [z] at l1
          cases xs with
          | nil => simp at hne
          | cons _ _ => simp at l1
        · have e : ys = [] := by
            rw [z] at l2
            exact List.eq_nil_of_length_eq_zero l2.symm
          refine q _ H (SameX.refl _ _) R.ckk ⟨?_, fun z => nomatch z⟩
          rw [e, List.append_nil]
          rcases hx2 with h | ⟨_, _, _, _, e, _⟩
          · exact h
          · cases e
        · obtain ⟨a1, a2, a3, a4, a5⟩ := R.alloc (o := .tup (vs ++ ws)) hp
          exact q _ _ a1 a2 ⟨.tup (SqT.of a5) (dqAll_mono a4 _ _ (da_app hvs hws)), fun z => nomatch z⟩
    | _ => simp [binD] at hd
  | _ => cases d2 <;> simp [binD] at hd
theorem t_add (h1 : PE X a (T Φ G X.K true ca)) (h2 : PE X b (T Φ G X.K true cb)) : PE X (.BinOp a .Add b pos) (T Φ G X.K m (.bin .add ca cb)) := t_two (pe_op op_addD h1 h2) ok_add fun _ _ _ => by simp only [den]
theorem ok_sub : OpOk X (binD .sub) (.bin .sub ca cb) (rI0 fun i j => .int (i - j)) := OpOk.plain (fun S cc H x y d1 d2 d Q hx hy hd q => by
  cases d1 with
  | int i => cases d2 with
    | int j =>
      simp only [binD, Option.some.injEq] at hd
      subst hd
      exact ⟨i, j, hx.int, hy.int, q _ (.int _)⟩
    | _ => simp [binD] at hd
  | _ => cases d2 <;> simp [binD] at hd) fun _ _ d _ => by cases d <;> rfl
theorem t_sub (h1 : PE X a (T Φ G X.K true ca)) (h2 : PE X b (T Φ G X.K true cb)) : PE X (.BinOp a .Sub b pos) (T Φ G X.K m (.bin .sub ca cb)) := t_two (pe_op op_sub h1 h2) ok_sub fun _ _ _ => by simp only [den]
theorem bits_le (i : Int) : Builtin.Int.intBits i ≤ i.natAbs.log2 + 1 := by
  unfold Builtin.Int.intBits
  split <;> omega
theorem mulOk_ok {i j : Int} (h : mulOk i j = true) : IntMulOk i j := by
  unfold mulOk at h
  obtain ⟨h1, h2⟩ := Bool.and_eq_true_iff.mp h
  have h3 : i.natAbs.log2 < 60000000 := of_decide_eq_true h1
  have h4 : j.natAbs.log2 < 60000000 := of_decide_eq_true h2
  have b1 := bits_le i
  have b2 := bits_le j
  have e : bitsLine = 134217728 := by decide
  unfold IntMulOk
  intro z
  rw [Bool.and_eq_true] at z
  have z2 := z.2
  unfold Builtin.Int.intTooBig at z2
  have z3 := of_decide_eq_true z2
  rw [e] at z3
  omega
def rMulI : R2 := rI (fun i j => IntMulOk i j) fun i j => .int (i * j)
theorem op_mulI : OpR X (binaryOp .Mult) rMulI := opI fun _ _ _ _ _ _ _ hc q => mul_int q hc
def rMulD : R2 := fun x y H Q => rMulI x y H Q ∨ rRep x y H Q
theorem op_mulD : OpR X (binaryOp .Mult) rMulD := OpR.or op_mulI op_rep
theorem rep_len {α : Type} (xs : List α) (k : Nat) : (List.replicate k xs).flatten.length = xs.length * k := by
  rw [List.length_flatten, List.map_replicate, List.sum_replicate_nat, Nat.mul_comm]
theorem ok_mul : OpOk X (binD .mul) (.bin .mul ca cb) rMulD := by
  intro en S cc env k σ H x y d1 d2 d Q R hx hy hd q
  cases d1 with
  | int i => cases d2 with
    | int j =>
      simp only [binD] at hd
      split at hd
      case isFalse => cases hd
      case isTrue hl =>
        cases hd
        exact .inl ⟨i, j, hx.int, hy.int, mulOk_ok hl, q _ H (SameX.refl _ _) R.ckk ⟨.int _, fun z => nomatch z⟩⟩
    | _ => simp [binD] at hd
  | list xs => cases d2 with
    | int j =>
      simp only [binD] at hd
      split at hd
      case isFalse => cases hd
      case isTrue hl =>
        cases hd
        simp only [Bool.and_eq_true, decide_eq_true_eq] at hl
        obtain ⟨⟨h0, h1⟩, h2⟩ := hl
        obtain ⟨a, vs, rfl, ha, hvs⟩ := hx.list
        refine .inr ⟨a, j, vs, rfl, hy.int, ha, by omega, by omega, line_ok (by rw [da_len hvs]; exact lenOk_le h1), fun p hp => ?_⟩
        obtain ⟨a1, a2, a3, a4, a5⟩ := R.alloc (o := .lst (List.replicate j.toNat vs).flatten) hp
        have hh := da_rep hvs j.toNat
        exact q _ _ a1 a2 ⟨.lst a5 (dqAll_mono a4 _ _ hh), fun _ => ⟨p, _, _, rfl, hp, upd_same, rfl, dqAll_mono (hide_new hp) _ _ hh⟩⟩
    | _ => simp [binD] at hd
  | _ => cases d2 <;> simp [binD] at hd
theorem t_mul (h1 : PE X a (T Φ G X.K true ca)) (h2 : PE X b (T Φ G X.K true cb)) : PE X (.BinOp a .Mult b pos) (T Φ G X.K m (.bin .mul ca cb)) := t_two (pe_op op_mulD h1 h2) ok_mul fun _ _ _ => by simp only [den]
theorem ok_mod : OpOk X (binD .mod) (.bin .mod ca cb) (rI (fun _ j => j ≠ 0) fun i j => .int (i.fmod j)) := OpOk.plain (fun S cc H x y d1 d2 d Q hx hy hd q => by
  cases d1 with
  | int i => cases d2 with
    | int j =>
      simp only [binD] at hd
      split at hd
      case isTrue => cases hd
      case isFalse hz =>
        cases hd
        exact ⟨i, j, hx.int, hy.int, hz, q _ (.int _)⟩
    | _ => simp [binD] at hd
  | _ => cases d2 <;> simp [binD] at hd) fun _ _ d _ => by cases d <;> rfl
theorem t_mod (h1 : PE X a (T Φ G X.K true ca)) (h2 : PE X b (T Φ G X.K true cb)) : PE X (.BinOp a .Mod b pos) (T Φ G X.K m (.bin .mod ca cb)) := t_two (pe_op op_modN h1 h2) ok_mod fun _ _ _ => by simp only [den]

theorem ok_pow : OpOk X (binD .pow) (.bin .pow ca cb) (rI CPow fun i j => .int (i ^ j.toNat)) := OpOk.plain (fun S cc H x y d1 d2 d Q hx hy hd q => by
  cases d1 with
  | int i => cases d2 with
    | int j =>
      simp only [binD] at hd
      split at hd
      case isFalse => cases hd
      case isTrue hz =>
        cases hd
        simp only [Bool.and_eq_true, decide_eq_true_eq] at hz
        exact ⟨i, j, hx.int, hy.int, ⟨hz.1.1, by omega, hz.2⟩, q _ (.int _)⟩
    | _ => simp [binD] at hd
  | _ => cases d2 <;> simp [binD] at hd) fun _ _ d _ => by cases d <;> rfl
theorem t_pow (h1 : PE X a (T Φ G X.K true ca)) (h2 : PE X b (T Φ G X.K true cb)) : PE X (.BinOp a .Pow b pos) (T Φ G X.K m (.bin .pow ca cb)) := t_two (pe_op op_pow h1 h2) ok_pow fun _ _ _ => by simp only [den]

/-! ### // of any size: there is room for the division's own frames -/
structure Wx (X : Cx) : Prop where
  seer : X.base.NoSeer
  tree : X.prog.given.tree = none
  stack : ∃ env l, X.stack = env :: l ∧ env.scope.isGenerator = false ∧ env.scope.isCoroutine = false ∧ env.builtins = builtinsNs ∧ env.globals = mainGlobals
  deep : X.A.depth + Builtin.pylongFrames < recursionLimit
theorem Wx.room (W : Wx X) {pins : List (Addr × Obj)} {s : Shared} {σ : St} {H : Hp} (I : Inv X pins σ H s) : PySem.PylongRoom (model X.prog X.w) X.A s := by
  obtain ⟨env, l, h1, h2, h3, h4, h5⟩ := W.stack
  exact PySem.PylongRoom.of I.nolimit W.deep (PySem.SeerAt.of (W.seer.keeps I.bk) W.tree (I.ok.frames.trans (by rw [h1])) h2 h3 h4 h5)
theorem op_fdivP (W : Wx X) : OpR X (binaryOp .FloorDiv) (rI (fun _ j => j ≠ 0) fun i j => .int (i.fdiv j)) := by
  intro pins s σ H x y v u Q I rx ry h
  obtain ⟨i, j, rfl, rfl, hc, q⟩ := h
  obtain ⟨t, rfl⟩ := rx
  obtain ⟨t', rfl⟩ := ry
  exact floordiv_int hc ⟨.int (i.fdiv j), H, I.tok _, ⟨_, rfl⟩, q⟩ (.inr (W.room I))
theorem ok_fdiv : OpOk X (binD .fdiv) (.bin .fdiv ca cb) (rI (fun _ j => j ≠ 0) fun i j => .int (i.fdiv j)) := OpOk.plain (fun S cc H x y d1 d2 d Q hx hy hd q => by
  cases d1 with
  | int i => cases d2 with
    | int j =>
      simp only [binD] at hd
      split at hd
      case isTrue => cases hd
      case isFalse hz =>
        cases hd
        exact ⟨i, j, hx.int, hy.int, hz, q _ (.int _)⟩
    | _ => simp [binD] at hd
  | _ => cases d2 <;> simp [binD] at hd) fun _ _ d _ => by cases d <;> rfl
theorem t_fdiv (W : Wx X) (h1 : PE X a (T Φ G X.K true ca)) (h2 : PE X b (T Φ G X.K true cb)) : PE X (.BinOp a .FloorDiv b pos) (T Φ G X.K m (.bin .fdiv ca cb)) := t_two (pe_op (op_fdivP W) h1 h2) ok_fdiv fun _ _ _ => by simp only [den]
end
end Dn
set_option Elab.async false
set_option linter.all false
set_option maxRecDepth 100000
/-! Dn5: comparisons, tests, conditions, items, slices. -/
namespace Dn
open PySem PySem.Spec PyProof.Rows L2
section
variable {X : Cx} {Φ : Phi} {G : Glo} {e a b : Expr} {es : List Expr} {c ca cb cc' : CE} {pos : Pos} {m : Bool}

/-- one operand -/
theorem t_un1 {r : V → Hp → VK → Prop} {f : PyData → Option PyData} (h : PE X e (tUn r (T Φ G X.K true ca)))
    (hi : ∀ (en : En) (S : List Addr) (cc : Option Addr) (env : DEnv) (k : KS) (σ : St) (H : Hp) (x : V) (d1 d : PyData) (Q : VK), SR X.K en S cc env k σ H → RdOk X.K S cc H x d1 → f d1 = some d →
      (∀ v H', SameX cc H H' → CkOk cc k H' → (Dq X.K (hide S H') v d ∧ (c.fresh d = true → FreshOk X.K S H H' v d)) → Q v H') → r x H Q)
    (hden : ∀ m env k, den Φ G c m env k = (den Φ G ca true env k).bind fun r => (f r.1).map fun d => (d, r.2)) : PE X e (T Φ G X.K m c) := by
  refine pe_imp h fun σ H Q h => ?_
  obtain ⟨en, S, cc, env, k, d, k', R, hq, q⟩ := h
  rw [hden] at hq
  simp only [Option.bind_eq_some_iff, Option.map_eq_some_iff] at hq
  obtain ⟨⟨d1, k1⟩, e1, d3, e3, e4⟩ := hq
  simp only [Prod.mk.injEq] at e4
  obtain ⟨rfl, rfl⟩ := e4
  refine ⟨en, S, cc, env, k, d1, k1, R, e1, fun x H1 s1 c1 v1 => ?_⟩
  have R1 := R.grow s1 c1
  refine hi en S cc env k1 σ H1 x d1 d3 Q R1 v1.rd e3 fun v H' s3 c3 v3 => ?_
  refine q v H' (s1.trans s3) c3 ?_
  unfold VOk
  cases m with
  | true => exact .inl v3.1
  | false =>
    refine ⟨v3.1, fun z => ?_⟩
    obtain ⟨p, vs, ds, h1, h2, h3⟩ := v3.2 z
    exact ⟨p, vs, ds, h1, R.none_back s1 c1 h2, h3⟩
def negD : PyData → Option PyData
  | .int i => some (.int (-i))
  | _ => none
theorem t_neg (h1 : PE X a (T Φ G X.K true ca)) : PE X (.UnaryOp .USub a pos) (T Φ G X.K m (.neg ca)) := t_un1 (f := negD) (pe_un un_neg h1) (fun en S cc env k σ H x d1 d Q R hx hd q => by
  cases d1 with
  | int i =>
    simp only [negD, Option.some.injEq] at hd
    subst hd
    exact ⟨i, hx.int, q _ H (SameX.refl _ _) R.ckk ⟨.int _, fun z => nomatch z⟩⟩
  | _ => simp [negD] at hd) fun _ _ _ => by
    simp only [den]
    congr 1
    funext r
    obtain ⟨d, k⟩ := r
    cases d <;> rfl

/-! ### tests -/
/-- an expression that gives a truth value, as a test -/
theorem tb_val (h : PE X e (T Φ G X.K true c)) (he : ∀ whole, isTrue e X.env whole = (do let v ← whole; standAt e.pos; holding [v] (truthy v))) : PT X e (TB Φ G X.K c) := by
  refine pt_imp (pt_val h he) fun σ H Q h => ?_
  obtain ⟨en, S, cc, env, k, b, k', R, hq, q⟩ := h
  exact ⟨en, S, cc, env, k, _, k', R, hq, fun v H' s1 c1 v1 => ⟨b, v1.rd.bl, q H' s1 c1⟩⟩
/-- .. as a value, from its test's rule -/
theorem tb_not (h : PT X a (TB Φ G X.K ca)) : PT X (.UnaryOp .Not a pos) (TB Φ G X.K (.not ca)) := by
  refine pt_imp (pt_not h) fun σ H Q h => ?_
  obtain ⟨en, S, cc, env, k, b, k', R, hq, q⟩ := h
  simp only [den, Option.bind_eq_some_iff] at hq
  obtain ⟨⟨d1, k1⟩, e1, e2⟩ := hq
  cases d1 with
  | bool v =>
    simp only [Option.some.injEq, Prod.mk.injEq, PyData.bool.injEq] at e2
    obtain ⟨rfl, rfl⟩ := e2
    exact ⟨en, S, cc, env, k, v, k1, R, e1, fun H' s1 c1 => q H' s1 c1⟩
  | _ => simp at e2
theorem t_not (h : PE X a (T Φ G X.K true ca)) : PE X (.UnaryOp .Not a pos) (T Φ G X.K m (.not ca)) := by
  refine pe_imp (pe_not h) fun σ H Q h => ?_
  obtain ⟨en, S, cc, env, k, b, k', R, hq, q⟩ := h
  simp only [den, Option.bind_eq_some_iff] at hq
  obtain ⟨⟨d1, k1⟩, e1, e2⟩ := hq
  cases d1 with
  | bool v =>
    simp only [Option.some.injEq, Prod.mk.injEq] at e2
    obtain ⟨rfl, rfl⟩ := e2
    exact ⟨en, S, cc, env, k, _, k1, R, e1, fun x H' s1 c1 v1 => ⟨v, v1.rd.bl, q _ H' s1 c1 (.of (.bl _) rfl)⟩⟩
  | _ => simp at e2
theorem and_split {env : DEnv} {k k' : KS} {b : Bool} {m : Bool} (h : den Φ G (.and ca cb) m env k = some (.bool b, k')) :
    ∃ v k1, den Φ G ca true env k = some (.bool v, k1) ∧ ((v = true ∧ den Φ G cb true env k1 = some (.bool b, k')) ∨ (v = false ∧ b = false ∧ k' = k1)) := by
  simp only [den, Option.bind_eq_some_iff] at h
  obtain ⟨⟨d1, k1⟩, e1, e2⟩ := h
  cases d1 with
  | bool v =>
    cases v with
    | true =>
      simp only [Option.bind_eq_some_iff] at e2
      obtain ⟨⟨d2, k2⟩, e3, e4⟩ := e2
      cases d2 with
      | bool w =>
        simp only [Option.some.injEq, Prod.mk.injEq, PyData.bool.injEq] at e4
        obtain ⟨rfl, rfl⟩ := e4
        exact ⟨true, k1, e1, .inl ⟨rfl, e3⟩⟩
      | _ => simp at e4
    | false =>
      simp only [Option.some.injEq, Prod.mk.injEq, PyData.bool.injEq] at e2
      obtain ⟨rfl, rfl⟩ := e2
      exact ⟨false, k1, e1, .inr ⟨rfl, rfl, rfl⟩⟩
  | _ => simp at e2
theorem or_split {env : DEnv} {k k' : KS} {b : Bool} {m : Bool} (h : den Φ G (.or ca cb) m env k = some (.bool b, k')) :
    ∃ v k1, den Φ G ca true env k = some (.bool v, k1) ∧ ((v = false ∧ den Φ G cb true env k1 = some (.bool b, k')) ∨ (v = true ∧ b = true ∧ k' = k1)) := by
  simp only [den, Option.bind_eq_some_iff] at h
  obtain ⟨⟨d1, k1⟩, e1, e2⟩ := h
  cases d1 with
  | bool v =>
    cases v with
    | false =>
      simp only [Option.bind_eq_some_iff] at e2
      obtain ⟨⟨d2, k2⟩, e3, e4⟩ := e2
      cases d2 with
      | bool w =>
        simp only [Option.some.injEq, Prod.mk.injEq, PyData.bool.injEq] at e4
        obtain ⟨rfl, rfl⟩ := e4
        exact ⟨false, k1, e1, .inl ⟨rfl, e3⟩⟩
      | _ => simp at e4
    | true =>
      simp only [Option.some.injEq, Prod.mk.injEq, PyData.bool.injEq] at e2
      obtain ⟨rfl, rfl⟩ := e2
      exact ⟨true, k1, e1, .inr ⟨rfl, rfl, rfl⟩⟩
  | _ => simp at e2
theorem and_bool {env : DEnv} {k k' : KS} {d : PyData} {m : Bool} (h : den Φ G (.and ca cb) m env k = some (d, k')) : ∃ b, d = .bool b := by
  simp only [den, Option.bind_eq_some_iff] at h
  obtain ⟨⟨d1, k1⟩, e1, e2⟩ := h
  cases d1 with
  | bool v =>
    cases v with
    | true =>
      simp only [Option.bind_eq_some_iff] at e2
      obtain ⟨⟨d2, k2⟩, e3, e4⟩ := e2
      cases d2 with
      | bool w =>
        simp only [Option.some.injEq, Prod.mk.injEq] at e4
        exact ⟨w, e4.1.symm⟩
      | _ => simp at e4
    | false =>
      simp only [Option.some.injEq, Prod.mk.injEq] at e2
      exact ⟨false, e2.1.symm⟩
  | _ => simp at e2
theorem or_bool {env : DEnv} {k k' : KS} {d : PyData} {m : Bool} (h : den Φ G (.or ca cb) m env k = some (d, k')) : ∃ b, d = .bool b := by
  simp only [den, Option.bind_eq_some_iff] at h
  obtain ⟨⟨d1, k1⟩, e1, e2⟩ := h
  cases d1 with
  | bool v =>
    cases v with
    | false =>
      simp only [Option.bind_eq_some_iff] at e2
      obtain ⟨⟨d2, k2⟩, e3, e4⟩ := e2
      cases d2 with
      | bool w =>
        simp only [Option.some.injEq, Prod.mk.injEq] at e4
        exact ⟨w, e4.1.symm⟩
      | _ => simp at e4
    | true =>
      simp only [Option.some.injEq, Prod.mk.injEq] at e2
      exact ⟨true, e2.1.symm⟩
  | _ => simp at e2
theorem t_and {r : List Expr} (h1 : PE X a (T Φ G X.K true ca)) (h2 : PE X (.BoolOp .And (b :: r) pos) (T Φ G X.K true cb)) : PE X (.BoolOp .And (a :: b :: r) pos) (T Φ G X.K m (.and ca cb)) := by
  refine pe_imp (pe_and h1 h2) fun σ H Q h => ?_
  obtain ⟨en, S, cc, env, k, d, k', R, hq, q⟩ := h
  obtain ⟨w, rfl⟩ := and_bool hq
  obtain ⟨v, k1, e1, e2⟩ := and_split hq
  refine ⟨en, S, cc, env, k, _, k1, R, e1, fun x H1 s1 c1 v1 => ⟨v, v1.rd.bl, ?_⟩⟩
  rcases e2 with ⟨rfl, e2⟩ | ⟨rfl, rfl, rfl⟩
  · rw [if_pos rfl]
    exact ⟨en, S, cc, env, k1, _, k', R.grow s1 c1, e2, fun y H2 s2 c2 v2 => q y H2 (s1.trans s2) c2 (by rw [v2.rd.bl]; exact .of (.bl _) rfl)⟩
  · rw [if_neg Bool.false_ne_true]
    exact q _ H1 s1 c1 (.of (.bl _) rfl)
theorem t_or {r : List Expr} (h1 : PE X a (T Φ G X.K true ca)) (h2 : PE X (.BoolOp .Or (b :: r) pos) (T Φ G X.K true cb)) : PE X (.BoolOp .Or (a :: b :: r) pos) (T Φ G X.K m (.or ca cb)) := by
  refine pe_imp (pe_or h1 h2) fun σ H Q h => ?_
  obtain ⟨en, S, cc, env, k, d, k', R, hq, q⟩ := h
  obtain ⟨w, rfl⟩ := or_bool hq
  obtain ⟨v, k1, e1, e2⟩ := or_split hq
  refine ⟨en, S, cc, env, k, _, k1, R, e1, fun x H1 s1 c1 v1 => ⟨v, v1.rd.bl, ?_⟩⟩
  rcases e2 with ⟨rfl, e2⟩ | ⟨rfl, rfl, rfl⟩
  · rw [if_neg Bool.false_ne_true]
    exact ⟨en, S, cc, env, k1, _, k', R.grow s1 c1, e2, fun y H2 s2 c2 v2 => q y H2 (s1.trans s2) c2 (by rw [v2.rd.bl]; exact .of (.bl _) rfl)⟩
  · rw [if_pos rfl]
    exact q _ H1 s1 c1 (.of (.bl _) rfl)
theorem tw_and {r : List Expr} (h1 : PT X a (TB Φ G X.K ca)) (h2 : PW X (.BoolOp .And (b :: r) pos) (TB Φ G X.K cb)) : PW X (.BoolOp .And (a :: b :: r) pos) (TB Φ G X.K (.and ca cb)) := by
  refine pw_imp (pw_and h1 h2) fun σ H Q h => ?_
  obtain ⟨en, S, cc, env, k, w, k', R, hq, q⟩ := h
  obtain ⟨v, k1, e1, e2⟩ := and_split hq
  refine ⟨en, S, cc, env, k, v, k1, R, e1, fun H1 s1 c1 => ?_⟩
  rcases e2 with ⟨rfl, e2⟩ | ⟨rfl, rfl, rfl⟩
  · rw [if_pos rfl]
    exact ⟨en, S, cc, env, k1, _, k', R.grow s1 c1, e2, fun H2 s2 c2 => q H2 (s1.trans s2) c2⟩
  · rw [if_neg Bool.false_ne_true]
    exact q H1 s1 c1
theorem tw_or {r : List Expr} (h1 : PT X a (TB Φ G X.K ca)) (h2 : PW X (.BoolOp .Or (b :: r) pos) (TB Φ G X.K cb)) : PW X (.BoolOp .Or (a :: b :: r) pos) (TB Φ G X.K (.or ca cb)) := by
  refine pw_imp (pw_or h1 h2) fun σ H Q h => ?_
  obtain ⟨en, S, cc, env, k, w, k', R, hq, q⟩ := h
  obtain ⟨v, k1, e1, e2⟩ := or_split hq
  refine ⟨en, S, cc, env, k, v, k1, R, e1, fun H1 s1 c1 => ?_⟩
  rcases e2 with ⟨rfl, e2⟩ | ⟨rfl, rfl, rfl⟩
  · rw [if_neg Bool.false_ne_true]
    exact ⟨en, S, cc, env, k1, _, k', R.grow s1 c1, e2, fun H2 s2 c2 => q H2 (s1.trans s2) c2⟩
  · rw [if_pos rfl]
    exact q H1 s1 c1
theorem ite_split {env : DEnv} {k k' : KS} {d : PyData} {m : Bool} (h : den Φ G (.ite cc' ca cb) m env k = some (d, k')) :
    ∃ v k1, den Φ G cc' true env k = some (.bool v, k1) ∧ (if v = true then den Φ G ca m env k1 = some (d, k') else den Φ G cb m env k1 = some (d, k')) := by
  simp only [den, Option.bind_eq_some_iff] at h
  obtain ⟨⟨d1, k1⟩, e1, e2⟩ := h
  cases d1 with
  | bool v => cases v <;> exact ⟨_, k1, e1, e2⟩
  | _ => simp at e2
theorem t_ite {t : Expr} (hc : PT X t (TB Φ G X.K cc')) (h1 : PE X a (T Φ G X.K m ca)) (h2 : PE X b (T Φ G X.K m cb)) : PE X (.IfExp t a b pos) (T Φ G X.K m (.ite cc' ca cb)) := by
  refine pe_imp (pe_ifExp hc h1 h2) fun σ H Q h => ?_
  obtain ⟨en, S, cc, env, k, d, k', R, hq, q⟩ := h
  obtain ⟨v, k1, e1, e2⟩ := ite_split hq
  refine ⟨en, S, cc, env, k, v, k1, R, e1, fun H1 s1 c1 => ?_⟩
  have fin : ∀ (c : CE) (y : V) (H2 : Hp), SameX cc H1 H2 → CkOk cc k' H2 → VOk X.K S cc H1 H2 m c y d → Q y H2 := fun c y H2 s2 c2 v2 => q y H2 (s1.trans s2) c2 (by
    unfold VOk at v2 ⊢
    cases m with
    | true => exact v2
    | false => exact ⟨v2.1, fun z => nomatch z⟩)
  cases v with
  | true => exact ⟨en, S, cc, env, k1, d, k', R.grow s1 c1, e2, fin _⟩
  | false => exact ⟨en, S, cc, env, k1, d, k', R.grow s1 c1, e2, fin _⟩

/-! ### comparisons -/
def rEqQ (K : PySem.W.Frag) (neg : Bool) : R2 := fun x y H Q => ∃ d e, Dp K H x d ∧ Dp K H y e ∧ SeqAt.shaped d = true ∧ SeqAt.shaped e = true ∧ Q (.bl (neg != PyData.eqv d e)) H
theorem op_eqQ (hu : X.A.units + 64 < cLine) : OpR X (compareOp .Eq) (rEqQ X.K false) := by
  intro pins s σ H x y v u Q I rx ry h
  obtain ⟨d, e, hd, he, sd, se, q⟩ := h
  exact op_eqD hu pins s σ H x y v u Q I rx ry ⟨d, e, hd, he, sd, se, by simpa using q⟩
theorem op_neQ (hu : X.A.units + 64 < cLine) : OpR X (compareOp .NotEq) (rEqQ X.K true) := by
  intro pins s σ H x y v u Q I rx ry h
  obtain ⟨d, e, hd, he, sd, se, q⟩ := h
  exact op_neD hu pins s σ H x y v u Q I rx ry ⟨d, e, hd, he, sd, se, by simpa using q⟩
def cmpV (o : Cp) : PyData → PyData → Option PyData := fun x y => (cmpD o x y).map PyData.bool
theorem cmp_den {o : Cp} (m : Bool) (env : DEnv) (k : KS) : den Φ G (.cmp o ca cb) m env k = (den Φ G ca true env k).bind fun r => (den Φ G cb true env r.2).bind fun q => (cmpV o r.1 q.1).map fun d => (d, q.2) := by
  simp only [den, cmpV]
  congr 1
  funext r
  congr 1
  funext q
  cases cmpD o r.1 q.1 <;> rfl
theorem cmp_fresh {o : Cp} (d1 d2 d : PyData) (h : cmpV o d1 d2 = some d) : (CE.cmp o ca cb).fresh d = false := by cases d <;> rfl
theorem ok_eq : OpOk X (cmpV .eq) (.cmp .eq ca cb) (rEqQ X.K false) := OpOk.plain (fun S cc H x y d1 d2 d Q hx hy hd q => by
  simp only [cmpV, cmpD, Option.map_eq_some_iff] at hd
  obtain ⟨b, h1, rfl⟩ := hd
  split at h1
  case isFalse => cases h1
  case isTrue hs =>
    cases h1
    obtain ⟨s1, s2⟩ := Bool.and_eq_true_iff.mp hs
    exact ⟨d1, d2, dq_dp _ _ hx.full, dq_dp _ _ hy.full, s1, s2, by simpa using q _ (.bl _)⟩) cmp_fresh
theorem ok_ne : OpOk X (cmpV .ne) (.cmp .ne ca cb) (rEqQ X.K true) := OpOk.plain (fun S cc H x y d1 d2 d Q hx hy hd q => by
  simp only [cmpV, cmpD, Option.map_eq_some_iff] at hd
  obtain ⟨b, h1, rfl⟩ := hd
  split at h1
  case isFalse => cases h1
  case isTrue hs =>
    cases h1
    obtain ⟨s1, s2⟩ := Bool.and_eq_true_iff.mp hs
    exact ⟨d1, d2, dq_dp _ _ hx.full, dq_dp _ _ hy.full, s1, s2, by simpa using q _ (.bl _)⟩) cmp_fresh
theorem ok_int2 {o : Cp} {g : Int → Int → Bool} (h : ∀ d1 d2 b, cmpD o d1 d2 = some b → ∃ i j, d1 = .int i ∧ d2 = .int j ∧ b = g i j) : OpOk X (cmpV o) (.cmp o ca cb) (rI0 fun i j => .bl (g i j)) := OpOk.plain (fun S cc H x y d1 d2 d Q hx hy hd q => by
  simp only [cmpV, Option.map_eq_some_iff] at hd
  obtain ⟨b, h1, rfl⟩ := hd
  obtain ⟨i, j, rfl, rfl, rfl⟩ := h _ _ _ h1
  exact ⟨i, j, hx.int, hy.int, q _ (.bl _)⟩) cmp_fresh
theorem cmpD_lt (d1 d2 : PyData) (b : Bool) (h : cmpD .lt d1 d2 = some b) : ∃ i j, d1 = .int i ∧ d2 = .int j ∧ b = decide (i < j) := by
  cases d1 <;> cases d2 <;> simp [cmpD] at h
  exact ⟨_, _, rfl, rfl, h.symm⟩
theorem cmpD_le (d1 d2 : PyData) (b : Bool) (h : cmpD .le d1 d2 = some b) : ∃ i j, d1 = .int i ∧ d2 = .int j ∧ b = decide (i ≤ j) := by
  cases d1 <;> cases d2 <;> simp [cmpD] at h
  exact ⟨_, _, rfl, rfl, h.symm⟩
theorem cmpD_gt (d1 d2 : PyData) (b : Bool) (h : cmpD .gt d1 d2 = some b) : ∃ i j, d1 = .int i ∧ d2 = .int j ∧ b = decide (j < i) := by
  cases d1 <;> cases d2 <;> simp [cmpD] at h
  exact ⟨_, _, rfl, rfl, h.symm⟩
theorem cmpD_ge (d1 d2 : PyData) (b : Bool) (h : cmpD .ge d1 d2 = some b) : ∃ i j, d1 = .int i ∧ d2 = .int j ∧ b = decide (j ≤ i) := by
  cases d1 <;> cases d2 <;> simp [cmpD] at h
  exact ⟨_, _, rfl, rfl, h.symm⟩
def cpO : Cp → CmpOp
  | .eq => .Eq | .ne => .NotEq | .lt => .Lt | .le => .LtE | .gt => .Gt | .ge => .GtE
theorem cp_rule (hu : X.A.units + 64 < cLine) (o : Cp) : ∃ r : R2, OpR X (compareOp (cpO o)) r ∧ OpOk X (cmpV o) (.cmp o ca cb) r := by
  cases o with
  | eq => exact ⟨_, op_eqQ hu, ok_eq⟩
  | ne => exact ⟨_, op_neQ hu, ok_ne⟩
  | lt => exact ⟨_, op_lt, ok_int2 cmpD_lt⟩
  | le => exact ⟨_, op_le, ok_int2 cmpD_le⟩
  | gt => exact ⟨_, op_gt, ok_int2 cmpD_gt⟩
  | ge => exact ⟨_, op_ge, ok_int2 cmpD_ge⟩
end
end Dn
set_option Elab.async false
set_option linter.all false
set_option maxRecDepth 100000
/-! Dn6: comparisons as tests, is None, items, slices, calls. -/
namespace Dn
open PySem PySem.Spec PyProof.Rows L2
section
variable {X : Cx} {Φ : Phi} {G : Glo} {e a b : Expr} {es : List Expr} {c ca cb cc' : CE} {pos : Pos} {m : Bool}

/-- a value's reading that ends in a truth value gives the test's -/
theorem tb_two {r : R2} {f : PyData → PyData → Option PyData} (h : PT X e (tTest (tOp r (T Φ G X.K true ca) (T Φ G X.K true cb)))) (ho : OpOk X f c r)
    (hden : ∀ m env k, den Φ G c m env k = (den Φ G ca true env k).bind fun r => (den Φ G cb true env r.2).bind fun q => (f r.1 q.1).map fun d => (d, q.2)) : PT X e (TB Φ G X.K c) := by
  refine pt_imp h fun σ H Q h => ?_
  obtain ⟨en, S, cc, env, k, b, k', R, hq, q⟩ := h
  rw [hden] at hq
  simp only [Option.bind_eq_some_iff, Option.map_eq_some_iff] at hq
  obtain ⟨⟨d1, k1⟩, e1, ⟨d2, k2⟩, e2, d3, e3, e4⟩ := hq
  simp only [Prod.mk.injEq] at e4
  obtain ⟨rfl, rfl⟩ := e4
  refine ⟨en, S, cc, env, k, d1, k1, R, e1, fun x H1 s1 c1 v1 => ?_⟩
  have R1 := R.grow s1 c1
  refine ⟨en, S, cc, env, k1, d2, k2, R1, e2, fun y H2 s2 c2 v2 => ?_⟩
  have R2' := R1.grow s2 c2
  refine ho en S cc env k2 σ H2 x y d1 d2 _ _ R2' (v1.rd.grow s2 R.ckS) v2.rd e3 fun v H' s3 c3 v3 => ?_
  refine ⟨b, ?_, q H' ((s1.trans s2).trans s3) c3⟩
  have z := v3.1
  cases z
  rfl
theorem t_cmp (hu : X.A.units + 64 < cLine) {o : Cp} (h1 : PE X a (T Φ G X.K true ca)) (h2 : PE X b (T Φ G X.K true cb)) : PE X (.Compare a [cpO o] [b] pos) (T Φ G X.K m (.cmp o ca cb)) := by
  obtain ⟨r, r1, r2⟩ := cp_rule (ca := ca) (cb := cb) hu o
  exact t_two (pe_cmpR r1 h1 h2 (nomark b (by cases o <;> simp [cpO]) (by cases o <;> simp [cpO]))) r2 cmp_den
theorem tb_cmp (hu : X.A.units + 64 < cLine) {o : Cp} (h1 : PE X a (T Φ G X.K true ca)) (h2 : PE X b (T Φ G X.K true cb)) : PT X (.Compare a [cpO o] [b] pos) (TB Φ G X.K (.cmp o ca cb)) := by
  obtain ⟨r, r1, r2⟩ := cp_rule (ca := ca) (cb := cb) hu o
  exact tb_two (pt_cmpR r1 h1 h2 (nomark b (by cases o <;> simp [cpO]) (by cases o <;> simp [cpO]))) r2 cmp_den
/-- a rule with one readable operand, as value and test: both from the one reading -/
theorem tb_un1 {t : TE} {r : V → Hp → VK → Prop} {f : PyData → Option PyData} (h : PT X e (tTest t)) (ht : ∀ σ H Q, tUn r (T Φ G X.K true ca) σ H Q → t σ H Q)
    (hi : ∀ (en : En) (S : List Addr) (cc : Option Addr) (env : DEnv) (k : KS) (σ : St) (H : Hp) (x : V) (d1 d : PyData) (Q : VK), SR X.K en S cc env k σ H → RdOk X.K S cc H x d1 → f d1 = some d →
      (∀ v H', SameX cc H H' → CkOk cc k H' → (Dq X.K (hide S H') v d ∧ (c.fresh d = true → FreshOk X.K S H H' v d)) → Q v H') → r x H Q)
    (hden : ∀ m env k, den Φ G c m env k = (den Φ G ca true env k).bind fun r => (f r.1).map fun d => (d, r.2)) : PT X e (TB Φ G X.K c) := by
  refine pt_imp h fun σ H Q h => ht _ _ _ ?_
  obtain ⟨en, S, cc, env, k, b, k', R, hq, q⟩ := h
  rw [hden] at hq
  simp only [Option.bind_eq_some_iff, Option.map_eq_some_iff] at hq
  obtain ⟨⟨d1, k1⟩, e1, d3, e3, e4⟩ := hq
  simp only [Prod.mk.injEq] at e4
  obtain ⟨rfl, rfl⟩ := e4
  refine ⟨en, S, cc, env, k, d1, k1, R, e1, fun x H1 s1 c1 v1 => ?_⟩
  have R1 := R.grow s1 c1
  refine hi en S cc env k1 σ H1 x d1 _ _ R1 v1.rd e3 fun v H' s3 c3 v3 => ?_
  refine ⟨b, ?_, q H' (s1.trans s3) c3⟩
  have z := v3.1
  cases z
  rfl
def isND : PyData → Option PyData := fun d => some (.bool (isNone d))
def notND : PyData → Option PyData := fun d => some (.bool (!isNone d))
def rIsN0 : V → Hp → VK → Prop := fun x H Q => Q (.bl (decide (x = .non))) H
def rNotN0 : V → Hp → VK → Prop := fun x H Q => Q (.bl (!decide (x = .non))) H
theorem isN_den (m : Bool) (env : DEnv) (k : KS) : den Φ G (.isN ca) m env k = (den Φ G ca true env k).bind fun r => (isND r.1).map fun d => (d, r.2) := by
  simp only [den, isND, Option.map_some]
  cases den Φ G ca true env k <;> rfl
theorem notN_den (m : Bool) (env : DEnv) (k : KS) : den Φ G (.notN ca) m env k = (den Φ G ca true env k).bind fun r => (notND r.1).map fun d => (d, r.2) := by
  simp only [den, notND, Option.map_some]
  cases den Φ G ca true env k <;> rfl
theorem isN_ok (en : En) (S : List Addr) (cc : Option Addr) (env : DEnv) (k : KS) (σ : St) (H : Hp) (x : V) (d1 d : PyData) (Q : VK) (R : SR X.K en S cc env k σ H) (hx : RdOk X.K S cc H x d1) (hd : isND d1 = some d)
    (q : ∀ v H', SameX cc H H' → CkOk cc k H' → (Dq X.K (hide S H') v d ∧ ((CE.isN ca).fresh d = true → FreshOk X.K S H H' v d)) → Q v H') : rIsN0 x H Q := by
  unfold isND at hd
  cases hd
  have e := hx.none_iff
  show Q _ H
  rw [e]
  exact q _ H (SameX.refl _ _) R.ckk ⟨.bl _, fun z => nomatch z⟩
theorem notN_ok (en : En) (S : List Addr) (cc : Option Addr) (env : DEnv) (k : KS) (σ : St) (H : Hp) (x : V) (d1 d : PyData) (Q : VK) (R : SR X.K en S cc env k σ H) (hx : RdOk X.K S cc H x d1) (hd : notND d1 = some d)
    (q : ∀ v H', SameX cc H H' → CkOk cc k H' → (Dq X.K (hide S H') v d ∧ ((CE.notN ca).fresh d = true → FreshOk X.K S H H' v d)) → Q v H') : rNotN0 x H Q := by
  unfold notND at hd
  cases hd
  have e := hx.none_iff
  show Q _ H
  rw [e]
  exact q _ H (SameX.refl _ _) R.ckk ⟨.bl _, fun z => nomatch z⟩
theorem t_isN {j p} (h : PE X a (T Φ G X.K true ca)) : PE X (.Compare a [.Is] [.Constant .none j p] pos) (T Φ G X.K m (.isN ca)) := t_un1 (r := rIsN0) (f := isND) (pe_cmp (pc_isN h)) isN_ok isN_den
theorem t_notN {j p} (h : PE X a (T Φ G X.K true ca)) : PE X (.Compare a [.IsNot] [.Constant .none j p] pos) (T Φ G X.K m (.notN ca)) := t_un1 (r := rNotN0) (f := notND) (pe_cmp (pc_notN h)) notN_ok notN_den
theorem tb_isN {j p} (h : PE X a (T Φ G X.K true ca)) : PT X (.Compare a [.Is] [.Constant .none j p] pos) (TB Φ G X.K (.isN ca)) := tb_un1 (r := rIsN0) (f := isND) (pt_cmp (pc_isN h)) (fun _ _ _ q => q) isN_ok isN_den
theorem tb_notN {j p} (h : PE X a (T Φ G X.K true ca)) : PT X (.Compare a [.IsNot] [.Constant .none j p] pos) (TB Φ G X.K (.notN ca)) := tb_un1 (r := rNotN0) (f := notND) (pt_cmp (pc_notN h)) (fun _ _ _ q => q) notN_ok notN_den
def isBD (v : Bool) : PyData → Option PyData
  | .bool c => some (.bool (c == v))
  | _ => none
def notBD (v : Bool) : PyData → Option PyData
  | .bool c => some (.bool (c != v))
  | _ => none
theorem isB_den {v : Bool} (m : Bool) (env : DEnv) (k : KS) : den Φ G (.isB v ca) m env k = (den Φ G ca true env k).bind fun r => (isBD v r.1).map fun d => (d, r.2) := by
  simp only [den]
  congr 1
  funext r
  obtain ⟨d, k⟩ := r
  cases d <;> rfl
theorem notB_den {v : Bool} (m : Bool) (env : DEnv) (k : KS) : den Φ G (.notB v ca) m env k = (den Φ G ca true env k).bind fun r => (notBD v r.1).map fun d => (d, r.2) := by
  simp only [den]
  congr 1
  funext r
  obtain ⟨d, k⟩ := r
  cases d <;> rfl
def rIsBv (v : Bool) : V → Hp → VK → Prop := fun x H Q => rIsB x (.bl v) H Q
def rNotBv (v : Bool) : V → Hp → VK → Prop := fun x H Q => rNotB x (.bl v) H Q
theorem isB_ok {v : Bool} (en : En) (S : List Addr) (cc : Option Addr) (env : DEnv) (k : KS) (σ : St) (H : Hp) (x : V) (d1 d : PyData) (Q : VK) (R : SR X.K en S cc env k σ H) (hx : RdOk X.K S cc H x d1) (hd : isBD v d1 = some d)
    (q : ∀ v' H', SameX cc H H' → CkOk cc k H' → (Dq X.K (hide S H') v' d ∧ ((CE.isB v ca).fresh d = true → FreshOk X.K S H H' v' d)) → Q v' H') : rIsBv v x H Q := by
  cases d1 with
  | bool w =>
    simp only [isBD, Option.some.injEq] at hd
    subst hd
    have e : (w == v) = decide (w = v) := by cases w <;> cases v <;> rfl
    rw [e] at q
    exact ⟨w, v, hx.bl, rfl, q _ H (SameX.refl _ _) R.ckk ⟨.bl _, fun z => nomatch z⟩⟩
  | _ => simp [isBD] at hd
theorem notB_ok {v : Bool} (en : En) (S : List Addr) (cc : Option Addr) (env : DEnv) (k : KS) (σ : St) (H : Hp) (x : V) (d1 d : PyData) (Q : VK) (R : SR X.K en S cc env k σ H) (hx : RdOk X.K S cc H x d1) (hd : notBD v d1 = some d)
    (q : ∀ v' H', SameX cc H H' → CkOk cc k H' → (Dq X.K (hide S H') v' d ∧ ((CE.notB v ca).fresh d = true → FreshOk X.K S H H' v' d)) → Q v' H') : rNotBv v x H Q := by
  cases d1 with
  | bool w =>
    simp only [notBD, Option.some.injEq] at hd
    subst hd
    have e : (w != v) = !decide (w = v) := by cases w <;> cases v <;> rfl
    rw [e] at q
    exact ⟨w, v, hx.bl, rfl, q _ H (SameX.refl _ _) R.ckk ⟨.bl _, fun z => nomatch z⟩⟩
  | _ => simp [notBD] at hd
theorem t_isB {v : Bool} {j p} (h : PE X a (T Φ G X.K true ca)) : PE X (.Compare a [.Is] [.Constant (.bool v) j p] pos) (T Φ G X.K m (.isB v ca)) := t_un1 (r := rIsBv v) (f := isBD v) (pe_cmpR op_isBl h pe_bl (nomark _)) isB_ok isB_den
theorem t_notB {v : Bool} {j p} (h : PE X a (T Φ G X.K true ca)) : PE X (.Compare a [.IsNot] [.Constant (.bool v) j p] pos) (T Φ G X.K m (.notB v ca)) := t_un1 (r := rNotBv v) (f := notBD v) (pe_cmpR op_notBl h pe_bl (nomark _)) notB_ok notB_den
theorem tb_isB {v : Bool} {j p} (h : PE X a (T Φ G X.K true ca)) : PT X (.Compare a [.Is] [.Constant (.bool v) j p] pos) (TB Φ G X.K (.isB v ca)) := tb_un1 (r := rIsBv v) (f := isBD v) (pt_cmpR op_isBl h pe_bl (nomark _)) (fun _ _ _ q => q) isB_ok isB_den
theorem tb_notB {v : Bool} {j p} (h : PE X a (T Φ G X.K true ca)) : PT X (.Compare a [.IsNot] [.Constant (.bool v) j p] pos) (TB Φ G X.K (.notB v ca)) := tb_un1 (r := rNotBv v) (f := notBD v) (pt_cmpR op_notBl h pe_bl (nomark _)) (fun _ _ _ q => q) notB_ok notB_den

/-! ### items, slices -/
theorem ixD_eq (n : Nat) (i : Int) : ixD n i = ixN n i := rfl
theorem da_at {K : PySem.W.Frag} {H : Hp} {vs : List V} {ds : List PyData} {i : Int} {d : PyData} (h : DqAll K H vs ds) (e : ((ixD ds.length i).bind fun j => ds[j]?) = some d) : ∃ v, atI vs i = some v ∧ Dq K H v d := by
  simp only [Option.bind_eq_some_iff] at e
  obtain ⟨j, e1, e2⟩ := e
  obtain ⟨v, h1, h2⟩ := da_get h e2
  refine ⟨v, ?_, h2⟩
  unfold atI
  rw [da_len h, ← ixD_eq, e1]
  exact h1
theorem ok_idx : OpOk X idxD (.idx ca cb) (rIx X.K) := OpOk.plain (fun S cc H x y d1 d2 d Q hx hy hd q => by
  cases d1 with
  | list xs => cases d2 with
    | int i =>
      obtain ⟨p, vs, rfl, hp, hv⟩ := hx.list
      obtain ⟨v, h1, h2⟩ := da_at hv hd
      exact .inl ⟨p, vs, i, v, rfl, hy.int, SqL.of hp, h1, q v h2⟩
    | _ => simp [idxD] at hd
  | tuple xs => cases d2 with
    | int i =>
      obtain ⟨p, vs, rfl, hp, hv⟩ := hx.tup
      obtain ⟨v, h1, h2⟩ := da_at hv hd
      exact .inr (.inl ⟨p, vs, i, v, rfl, hy.int, hp, h1, q v h2⟩)
    | _ => simp [idxD] at hd
  | _ => cases d2 <;> simp [idxD] at hd) fun _ _ d _ => by cases d <;> rfl
theorem t_idx (hs : PlainIx b) (h1 : PE X a (T Φ G X.K true ca)) (h2 : PE X b (T Φ G X.K true cb)) : PE X (.Subscript a b pos) (T Φ G X.K m (.idx ca cb)) := t_two (pe_ix ix_seq h1 h2 hs) ok_idx fun _ _ _ => by simp only [den]
theorem sIx_eq (n d : Nat) (i : Int) : HT.sIx n d (some i) = sIxD n i := by
  unfold HT.sIx sIxD
  by_cases h : i < 0
  · simp only [if_pos h, if_neg (show ¬ 0 ≤ i by omega)]
  · simp only [if_neg h, if_pos (show 0 ≤ i by omega)]
def rSlLo (K : PySem.W.Frag) : R2 := fun x y H Q => ∃ i, y = .int i ∧ rSlL K x (some i) none H Q
def rSlHi (K : PySem.W.Frag) : R2 := fun x y H Q => ∃ i, y = .int i ∧ rSlL K x none (some i) H Q
theorem new_list {en : En} {S : List Addr} {cc : Option Addr} {env : DEnv} {k : KS} {σ : St} {H : Hp} {p : Addr} {vs : List V} {ds : List PyData} {K : PySem.W.Frag} (R : SR K en S cc env k σ H) (hp : H p = none) (h : DqAll K (hide S H) vs ds) :
    SameX cc H (upd H p (.lst vs)) ∧ CkOk cc k (upd H p (.lst vs)) ∧ Dq K (hide S (upd H p (.lst vs))) (.ref p) (.list ds) ∧ FreshOk K S H (upd H p (.lst vs)) (.ref p) (.list ds) := by
  obtain ⟨a1, a2, a3, a4, a5⟩ := R.alloc (o := .lst vs) hp
  exact ⟨a1, a2, .lst a5 (dqAll_mono a4 _ _ h), p, _, _, rfl, hp, upd_same, rfl, dqAll_mono (hide_new hp) _ _ h⟩
theorem ok_slL : OpOk X slLD (.slL ca cb) (rSlLo X.K) := by
  intro en S cc env k σ H x y d1 d2 d Q R hx hy hd q
  cases d1 with
  | list xs => cases d2 with
    | int i =>
      simp only [slLD, Option.some.injEq] at hd
      subst hd
      obtain ⟨p, vs, rfl, hp, hv⟩ := hx.list
      refine ⟨i, hy.int, p, vs, rfl, SqL.of hp, fun l hl => ?_⟩
      have e : cutV vs (some i) none = vs.drop (sIxD xs.length i) := by
        unfold cutV
        rw [sIx_eq, HT.sIx_none, da_len hv]
        rw [List.take_of_length_le (by rw [List.length_drop, da_len hv]; exact Nat.le_refl _)]
      obtain ⟨b1, b2, b3, b4⟩ := new_list R hl (da_drop (sIxD xs.length i) hv)
      rw [e]
      exact q _ _ b1 b2 ⟨b3, fun _ => b4⟩
    | _ => simp [slLD] at hd
  | _ => cases d2 <;> simp [slLD] at hd
theorem ok_slH : OpOk X slHD (.slH ca cb) (rSlHi X.K) := by
  intro en S cc env k σ H x y d1 d2 d Q R hx hy hd q
  cases d1 with
  | list xs => cases d2 with
    | int i =>
      simp only [slHD, Option.some.injEq] at hd
      subst hd
      obtain ⟨p, vs, rfl, hp, hv⟩ := hx.list
      refine ⟨i, hy.int, p, vs, rfl, SqL.of hp, fun l hl => ?_⟩
      have e : cutV vs none (some i) = vs.take (sIxD xs.length i) := by
        unfold cutV
        rw [sIx_eq, HT.sIx_none, da_len hv, List.drop_zero, Nat.sub_zero]
      obtain ⟨b1, b2, b3, b4⟩ := new_list R hl (da_take (sIxD xs.length i) hv)
      rw [e]
      exact q _ _ b1 b2 ⟨b3, fun _ => b4⟩
    | _ => simp [slHD] at hd
  | _ => cases d2 <;> simp [slHD] at hd
theorem t_slL {p2} (h1 : PE X a (T Φ G X.K true ca)) (h2 : PE X b (T Φ G X.K true cb)) : PE X (.Subscript a (.Slice (some b) none none p2) pos) (T Φ G X.K m (.slL ca cb)) :=
  t_two (pe_imp (pe_slice sl_list h1 (po_some h2) po_none) fun σ H Q h => by
    obtain ⟨en, S, cc, env, k, d, k', R, e, q⟩ := h
    exact ⟨en, S, cc, env, k, d, k', R, e, fun v H' s c vk => q v H' s c vk⟩) ok_slL fun _ _ _ => by simp only [den]
theorem t_slH {p2} (h1 : PE X a (T Φ G X.K true ca)) (h2 : PE X b (T Φ G X.K true cb)) : PE X (.Subscript a (.Slice none (some b) none p2) pos) (T Φ G X.K m (.slH ca cb)) :=
  t_two (pe_imp (pe_slice sl_list h1 po_none (po_some h2)) fun σ H Q h => by
    obtain ⟨en, S, cc, env, k, d, k', R, e, q⟩ := h
    exact ⟨en, S, cc, env, k, d, k', R, e, fun v H' s c vk => q v H' s c vk⟩) ok_slH fun _ _ _ => by simp only [den]
def rRev (K : PySem.W.Frag) : V → Hp → VK → Prop := fun x H1 Q => ∃ a xs, x = .ref a ∧ SqL K H1 a xs ∧ ∀ p, H1 p = none → Q (.ref p) (upd H1 p (.lst xs.reverse))
theorem t_rev {k0 : Nat} {p1 p2 p3 : Pos} (h1 : PE X a (T Φ G X.K true ca)) : PE X (.Subscript a (.Slice none none (some (.UnaryOp .USub (.Constant (.int 1) k0 p1) p2)) p3) pos) (T Φ G X.K m (.rev ca)) :=
  t_un1 (r := rRev X.K) (f := revD) (pe_revL h1) (fun en S cc env k σ H x d1 d Q R hx hd q => by
    cases d1 with
    | list xs =>
      simp only [revD, Option.some.injEq] at hd
      subst hd
      obtain ⟨p, vs, rfl, hp, hv⟩ := hx.list
      refine ⟨p, vs, rfl, SqL.of hp, fun l hl => ?_⟩
      obtain ⟨b1, b2, b3, b4⟩ := new_list R hl (da_rev hv)
      exact q _ _ b1 b2 ⟨b3, fun _ => b4⟩
    | _ => simp [revD] at hd) fun _ _ _ => by simp only [den]
end
end Dn
set_option Elab.async false
set_option linter.all false
set_option maxRecDepth 100000
/-! Dn7: what a def promises, calls, the built-ins. -/
namespace Dn
open PySem PySem.Spec PyProof.Rows L2

/-! ### a def's promise, where no repr is under way -/
structure FnG (P : Program) (w : World) (K : PySem.W.Frag) (mg : Str → Option Value) (base : Heap) (k : Nat) (f : Addr) (fd : FuncData) (ps : List Str) (sp : Sp) : Prop where
  len : ∀ vs H Q E, sp vs H Q E → vs.length = ps.length
  run : ∀ (A : Around) (outer : List Env) (s : Shared) (H : Hp) (args : Args) (us : List Value) (vs : List V) (Q : VK), A.guards = some [] → Room k A → Env0 P w K mg base A outer s H → BindsTo s fd args (ps.zip us) →
    Vals vs us → sp vs H Q E0 → codeAny (model P w) A (.call (.ref f) args) (CR CX0 outer P w H s Q E0) s
theorem FnG.of {P : Program} {w : World} {K : PySem.W.Frag} {mg : Str → Option Value} {base : Heap} {k : Nat} {f : Addr} {fd : FuncData} {ps : List Str} {sp : Sp} (F : FnOk P w K mg base CX0 k f fd ps sp) : FnG P w K mg base k f fd ps sp :=
  ⟨F.len, fun A o s H as us vs Q _ hr e b r h => F.run A o s H as us vs Q E0 hr e b r h⟩
theorem FnG.mono {P : Program} {w : World} {K : PySem.W.Frag} {mg : Str → Option Value} {base : Heap} {j k : Nat} {f : Addr} {fd : FuncData} {ps : List Str} {sp : Sp} (F : FnG P w K mg base j f fd ps sp) (h : j ≤ k) : FnG P w K mg base k f fd ps sp :=
  ⟨F.len, fun A o s H as us vs Q g hr e b r hs => F.run A o s H as us vs Q g (hr.mono h) e b r hs⟩
section
variable {X : Cx} {k : Nat} {f : Addr} {fd : FuncData} {ps : List Str} {sp : Sp}
theorem runG {pins : List (Addr × Obj)} {σ : L2.St} {H : Hp} {s : Shared} {Q : VK} {us : List Value} {vs : List V} (F : FnG X.prog X.w X.K X.mg X.base k f fd ps sp) (gd : X.A.guards = some []) (hr : Room k X.A)
    (hb : Binds X.K fd ps []) (I : Inv X pins σ H s) (r : Vals vs us) (h : sp vs H Q E0) : wpAny (model X.prog X.w) X.A (call (.ref f) us) (EP X pins σ Q) X.xe s := by
  have hlen : (us ++ []).length = ps.length := by
    rw [List.append_nil, ← r.length]
    exact F.len _ _ _ _ h
  have bnd := hb s us I.kIn hlen
  rw [List.append_nil] at bnd
  have step := F.run X.A X.stack s H ⟨us, []⟩ us vs Q gd hr I.env0 bnd r h
  refine wpAny_call (codeAny_mono step fun res s' hres => ?_)
  match res, hres with
  | .error _, hres => exact hres.elim
  | .ok (.ret u), hres => exact I.after hres
  | .ok .next, hres => exact hres.elim
  | .ok .brk, hres => exact hres.elim
  | .ok .cont, hres => exact hres.elim
variable {x : Str} {p pos : Pos} {e : Expr} {es : List Expr} {t : TA}
theorem pe_callG (F : FnG X.prog X.w X.K X.mg X.base k f fd ps sp) (gd : X.A.guards = some []) (hr : Room k X.A) (hg : Gl X x) (hm : X.mg x = some (.ref f)) (hk : PySem.W.keepIn X.K (.ref f) = true) (hb : Binds X.K fd ps [])
    (ha : PA X (e :: es) t) (hdb : (x == ("__debug__" : Str)) = false) (he : starEach (e :: es) X.env = (false, eval e X.env) :: starEach es X.env) (hpl : (backTo pos (starEach es X.env)).any (·.1) = false) :
    PE X (.Call (.Name x p) (e :: es) [] pos) (tCall sp [] E0 t) := ⟨fun pins s σ H Q I h => by
  refine wpAny_Call_Name_kw (ld_glob I hg hm ?_ hdb)
  refine PySem.W.callWith_K (h₀ := X.base) I.ok.mod.kin hk ?_ he hpl
  refine thn (ha.run pos pins s σ H _ I h) fun us s1 hx => ?_
  obtain ⟨vs, H1, I1, r, q⟩ := hx
  rw [List.append_nil] at q
  exact ⟨I1.kIn, runG F gd hr hb I1 r q⟩⟩
theorem pe_callG0 (F : FnG X.prog X.w X.K X.mg X.base k f fd ps sp) (gd : X.A.guards = some []) (hr : Room k X.A) (hg : Gl X x) (hm : X.mg x = some (.ref f)) (hk : PySem.W.keepIn X.K (.ref f) = true) (hb : Binds X.K fd ps [])
    (hdb : (x == ("__debug__" : Str)) = false) : PE X (.Call (.Name x p) [] [] pos) (tCall sp [] E0 tNil) := ⟨fun pins s σ H Q I h => by
  refine wpAny_Call_Name_kw (ld_glob I hg hm ?_ hdb)
  exact PySem.W.callWith_K0 I.kIn hk (runG (us := []) (vs := []) F gd hr hb I .nil h)⟩
end

/-! ### the promise of a def of the small language -/
def ArgOk (K : PySem.W.Frag) (S : List Addr) (cc : Option Addr) (H : Hp) (v : V) : Sl → Prop
  | .dat _ d => Dq K (hide S H) v d
  | .csk => ∃ c, v = .ref c ∧ cc = some c
  | .scr ns => ∃ a, v = .ref a ∧ SqL K H a (ns.map V.int) ∧ (cc ≠ some a ∨ ∀ H', SqL K H' a (ns.map V.int))
  | .un => False
def spD (K : PySem.W.Frag) (n : Nat) (φ : List Sl → KS → Option (PyData × KS)) : Sp := fun vs H Q _ => ∃ (S : List Addr) (cc : Option Addr) (as : List Sl) (k : KS) (d : PyData) (k' : KS),
  vs.length = n ∧ (∀ a ∈ S, H a ≠ none) ∧ (∀ c, cc = some c → c ∈ S ∧ H c = some (.lst (encK k))) ∧ Paired (ArgOk K S cc H) vs as ∧ φ as k = some (d, k') ∧
  ∀ v H', SameX cc H H' → CkOk cc k' H' → Dq K (hide S H') v d → Q v H'
/-- .. of a def that makes the cask -/
def spM (K : PySem.W.Frag) (n : Nat) (φ : List Sl → KS → Option (PyData × KS)) : Sp := fun vs H Q _ => ∃ (S : List Addr) (as : List Sl) (k : KS) (d : PyData) (k' : KS),
  vs.length = n ∧ (∀ a ∈ S, H a ≠ none) ∧ Paired (ArgOk K S none H) vs as ∧ φ as k = some (d, k') ∧
  ∀ p H', SameX none H H' → H p = none → H' p = some (.lst (encK k')) → Q (.ref p) H'
theorem args_of {K : PySem.W.Frag} {S : List Addr} {cc : Option Addr} {H : Hp} : ∀ {vs : List V} {ds : List PyData}, DqAll K (hide S H) vs ds → Paired (ArgOk K S cc H) vs (ds.map (Sl.dat false))
  | _, _, .nil => .nil
  | _, _, .cons h1 h2 => .cons h1 (args_of h2)

def notStar : Expr → Bool
  | .Starred .. => false
  | _ => true
theorem star_cons {e : Expr} {es : List Expr} {env : Env} (h : notStar e = true) : starEach (e :: es) env = (false, eval e env) :: starEach es env := by
  cases e <;> first | (simp [notStar] at h; done) | rfl | simp only [starEach]
theorem star_any : ∀ {es : List Expr} {env : Env} {pos : Pos}, (∀ e ∈ es, notStar e = true) → (backTo pos (starEach es env)).any (·.1) = false
  | [], _, _, _ => by simp [starEach, backTo]
  | e :: es, env, pos, h => by
    rw [star_cons (h e (List.mem_cons_self ..))]
    have ih := star_any (es := es) (env := env) (pos := pos) fun x hx => h x (List.mem_cons_of_mem _ hx)
    unfold backTo at ih ⊢
    rw [List.map_cons, List.any_cons, ih]
    rfl

section
variable {X : Cx} {Φ : Phi} {G : Glo} {e a b : Expr} {es : List Expr} {c ca cb cc' : CE} {pos p : Pos} {m : Bool} {kk : Nat} {f : Addr} {fd : FuncData} {ps : List Str} {x : Str}
/-- what a call of the def id stands on -/
structure CallOk (X : Cx) (Φ : Phi) (id : Nat) (x : Str) : Prop where
  ex : ∃ (k : Nat) (f : Addr) (fd : FuncData) (ps : List Str), FnG X.prog X.w X.K X.mg X.base k f fd ps (spD X.K ps.length (Φ id)) ∧ Room k X.A ∧ X.mg x = some (.ref f) ∧ PySem.W.keepIn X.K (.ref f) = true ∧ Binds X.K fd ps [] ∧
    ∀ as k r, Φ id as k = some r → as.length = ps.length
  gd : X.A.guards = some []
theorem spD_len {K : PySem.W.Frag} {n : Nat} {φ : List Sl → KS → Option (PyData × KS)} : ∀ vs H Q E, spD K n φ vs H Q E → vs.length = n := fun _ _ _ _ h => by
  obtain ⟨_, _, _, _, _, _, h, _⟩ := h
  exact h
theorem t_call {id : Nat} {r : CA} (C : CallOk X Φ id x) (hg : Gl X x) (hdb : (x == ("__debug__" : Str)) = false) (ha : PA X (e :: es) (TAs Φ G X.K false r)) (hst : ∀ y ∈ e :: es, notStar y = true) : PE X (.Call (.Name x p) (e :: es) [] pos) (T Φ G X.K m (.call id r)) := by
  obtain ⟨⟨k, f, fd, ps, F, hr, hm, hk, hb, hlen⟩, gd⟩ := C
  have h := pe_callG (p := p) (pos := pos) F gd hr hg hm hk hb ha hdb (star_cons (hst e (List.mem_cons_self ..))) (star_any fun y hy => hst y (List.mem_cons_of_mem _ hy))
  refine pe_imp h fun σ H Q h => ?_
  obtain ⟨en, S, cc, env, k, d, k', R, hq, q⟩ := h
  simp only [den, Option.bind_eq_some_iff] at hq
  obtain ⟨⟨ds, k1⟩, e1, e2⟩ := hq
  refine ⟨en, S, cc, env, k, ds, k1, R, e1, fun vs H1 s1 c1 v1 => ?_⟩
  have v1' : DqAll X.K (hide S H1) vs ds := v1
  have R1 := R.grow s1 c1
  refine ⟨S, cc, ds.map (Sl.dat false), k1, d, k', ?_, R1.trk, fun c z => ⟨R1.ckS c z, R1.ckk c z⟩, ?_, e2, fun v H' s2 c2 v2 => q v H' (s1.trans s2) c2 (.of v2 rfl)⟩
  · have q1 := hlen _ _ _ e2
    rw [List.length_map] at q1
    rw [List.append_nil, da_len v1', q1]
  · rw [List.append_nil]
    exact args_of v1'
/-- .. the first argument the cask or the script -/
theorem t_callC {id s : Nat} {y : Str} {py : Pos} {r : CA} (C : CallOk X Φ id x) (hg : Gl X x) (hdb : (x == ("__debug__" : Str)) = false) (hv : PE X (.Name y py) (tVar s)) (ha : PA X es (TAs Φ G X.K false r)) (hst : ∀ y ∈ es, notStar y = true) :
    PE X (.Call (.Name x p) (.Name y py :: es) [] pos) (T Φ G X.K m (.callC id s r)) := by
  obtain ⟨⟨k, f, fd, ps, F, hr, hm, hk, hb, hlen⟩, gd⟩ := C
  have h := pe_callG (p := p) (pos := pos) F gd hr hg hm hk hb (pa_cons hv ha (star_cons rfl)) hdb (star_cons rfl) (star_any hst)
  refine pe_imp h fun σ H Q h => ?_
  obtain ⟨en, S, cc, env, k, d, k', R, hq, q⟩ := h
  simp only [den] at hq
  have fin : ∀ (sl : Sl) (v : V) (ds : List PyData) (k1 : KS), σ[s]? = some (some v) → (∀ H1, SameX cc H H1 → ArgOk X.K S cc H1 v sl) → denA Φ G r false env k = some (ds, k1) → Φ id (sl :: ds.map (Sl.dat false)) k1 = some (d, k') →
      tCall (spD X.K ps.length (Φ id)) [] E0 (tCons (tVar s) (TAs Φ G X.K false r)) σ H Q := by
    intro sl v ds k1 hs hv e1 e2
    refine ⟨v, hs, en, S, cc, env, k, ds, k1, R, e1, fun vs H1 s1 c1 v1 => ?_⟩
    have v1' : DqAll X.K (hide S H1) vs ds := v1
    have R1 := R.grow s1 c1
    refine ⟨S, cc, sl :: ds.map (Sl.dat false), k1, d, k', ?_, R1.trk, fun c z => ⟨R1.ckS c z, R1.ckk c z⟩, ?_, e2, fun v H' s2 c2 v2 => q v H' (s1.trans s2) c2 (.of v2 rfl)⟩
    · have q1 := hlen _ _ _ e2
      rw [List.length_cons, List.length_map] at q1
      rw [List.append_nil, List.length_cons, da_len v1', q1]
    · rw [List.append_nil]
      exact .cons (hv H1 s1) (args_of v1')
  cases he : env[s]? with
  | none => rw [he] at hq; simp at hq
  | some sl =>
    rw [he] at hq
    have so := R.slots s sl he
    cases sl with
    | csk =>
      simp only [Option.bind_eq_some_iff] at hq
      obtain ⟨⟨ds, k1⟩, e1, e2⟩ := hq
      obtain ⟨c, h1, h2⟩ := so
      exact fin .csk (.ref c) ds k1 h1 (fun _ _ => ⟨c, rfl, h2⟩) e1 e2
    | scr ns =>
      simp only [Option.bind_eq_some_iff] at hq
      obtain ⟨⟨ds, k1⟩, e1, e2⟩ := hq
      obtain ⟨a, h1, h2, h3⟩ := so
      refine fin (.scr ns) (.ref a) ds k1 h1 (fun H1 s1 => ?_) e1 e2
      obtain ⟨a', z1, z2, z3⟩ := (SlOk.grow (K := X.K) (en := en) (v := some (some (.ref a))) (s := .scr ns) ⟨a, rfl, h2, h3⟩ s1 R.ckS)
      cases z1
      exact ⟨a, rfl, z2, z3.imp And.left fun z => z⟩
    | dat o d => simp at hq
    | un => simp at hq

/-! ### built-ins -/
/-- a rule by values serves the built-in b -/
def BiOk (X : Cx) (b : Bi) (r : List V → Hp → VK → Prop) : Prop :=
  ∀ (en : En) (S : List Addr) (cc : Option Addr) (env : DEnv) (k : KS) (σ : St) (H : Hp) (vs : List V) (ds : List PyData) (d : PyData) (Q : VK), SR X.K en S cc env k σ H → RdAll X.K S cc H vs ds → bltD b ds = some d →
    (∀ v H', SameX cc H H' → CkOk cc k H' → (Dq X.K (hide S H') v d ∧ (b = .list → FreshOk X.K S H H' v d)) → Q v H') → r vs H Q
theorem t_blt {b : Bi} {r : List V → Hp → VK → Prop} {ca : CA} (h : PE X e (tCB r (TAs Φ G X.K true ca))) (ho : BiOk X b r) : PE X e (T Φ G X.K m (.blt b ca)) := by
  refine pe_imp h fun σ H Q h => ?_
  obtain ⟨en, S, cc, env, k, d, k', R, hq, q⟩ := h
  simp only [den, Option.bind_eq_some_iff, Option.map_eq_some_iff] at hq
  obtain ⟨⟨ds, k1⟩, e1, d3, e3, e4⟩ := hq
  simp only [Prod.mk.injEq] at e4
  obtain ⟨rfl, rfl⟩ := e4
  refine ⟨en, S, cc, env, k, ds, k1, R, e1, fun vs H1 s1 c1 v1 => ?_⟩
  have R1 := R.grow s1 c1
  have v1' : RdAll X.K S cc H1 vs ds := v1
  refine ho en S cc env k1 σ H1 vs ds d3 Q R1 v1' e3 fun v H' s3 c3 v3 => ?_
  refine q v H' (s1.trans s3) c3 ?_
  unfold VOk
  cases m with
  | true => exact .inl v3.1
  | false =>
    refine ⟨v3.1, fun z => ?_⟩
    obtain ⟨p, vs, ds, h1, h2, h3⟩ := v3.2 (by cases b <;> first | rfl | cases z)
    exact ⟨p, vs, ds, h1, R.none_back s1 c1 h2, h3⟩
theorem rd1 {S : List Addr} {cc : Option Addr} {H : Hp} {vs : List V} {d : PyData} (h : RdAll X.K S cc H vs [d]) : ∃ v, vs = [v] ∧ RdOk X.K S cc H v d := by
  cases h with
  | cons h1 h2 => cases h2; exact ⟨_, rfl, h1⟩
theorem rd2 {S : List Addr} {cc : Option Addr} {H : Hp} {vs : List V} {d e : PyData} (h : RdAll X.K S cc H vs [d, e]) : ∃ v w, vs = [v, w] ∧ RdOk X.K S cc H v d ∧ RdOk X.K S cc H w e := by
  cases h with
  | cons h1 h2 => cases h2 with
    | cons h3 h4 => cases h4; exact ⟨_, _, rfl, h1, h3⟩
def rLenD (K : PySem.W.Frag) : List V → Hp → VK → Prop := fun xs H Q => ∃ p ys, xs = [.ref p] ∧ (SqL K H p ys ∨ SqT K H p ys) ∧ Q (.int ys.length) H
theorem bi_len : BiOk X .len (rLenD X.K) := by
  intro en S cc env k σ H vs ds d Q R hv hd q
  unfold bltD at hd
  split at hd <;> first | (cases hd; done) | skip
  case _ xs _ =>
    cases hd
    obtain ⟨v, rfl, h⟩ := rd1 hv
    obtain ⟨p, ys, rfl, h1, h2⟩ := h.list
    refine ⟨p, ys, rfl, .inl (SqL.of h1), ?_⟩
    rw [da_len h2]
    exact q _ H (SameX.refl _ _) R.ckk ⟨.int _, fun z => nomatch z⟩
  case _ xs _ =>
    cases hd
    obtain ⟨v, rfl, h⟩ := rd1 hv
    obtain ⟨p, ys, rfl, h1, h2⟩ := h.tup
    refine ⟨p, ys, rfl, .inr h1, ?_⟩
    rw [da_len h2]
    exact q _ H (SameX.refl _ _) R.ckk ⟨.int _, fun z => nomatch z⟩
  all_goals (rename_i z; cases z)
end
end Dn
set_option Elab.async false
set_option linter.all false
set_option maxRecDepth 100000
/-! Dn8: the other built-ins. -/
namespace Dn
open PySem PySem.Spec PyProof.Rows L2
section
variable {X : Cx} {Φ : Phi} {G : Glo} {e a b : Expr} {es : List Expr} {c ca cb cc' : CE} {pos p : Pos} {m : Bool}
/-- ints in, a flat thing out -/
theorem bi_flat {b : Bi} {r : List V → Hp → VK → Prop} (hb : b ≠ .list) (h : ∀ (S : List Addr) (cc : Option Addr) (H : Hp) (vs : List V) (ds : List PyData) (d : PyData) (Q : VK), RdAll X.K S cc H vs ds → bltD b ds = some d → (∀ v, Dq X.K (hide S H) v d → Q v H) → r vs H Q) : BiOk X b r := by
  intro en S cc env k σ H vs ds d Q R hv hd q
  exact h S cc H vs ds d Q hv hd fun v hv => q v H (SameX.refl _ _) R.ckk ⟨hv, fun z => absurd z hb⟩
def rMax2 : List V → Hp → VK → Prop := fun xs H Q => ∃ i j, xs = [.int i, .int j] ∧ Q (.int (if j > i then j else i)) H
def rMin2 : List V → Hp → VK → Prop := fun xs H Q => ∃ i j, xs = [.int i, .int j] ∧ Q (.int (if j < i then j else i)) H
def rAbs1 : List V → Hp → VK → Prop := fun xs H Q => ∃ i, xs = [.int i] ∧ Q (.int (if i < 0 then -i else i)) H
theorem bi_max2 : BiOk X .max2 rMax2 := bi_flat (by decide) fun S cc H vs ds d Q hv hd q => by
  unfold bltD at hd
  split at hd <;> first | (cases hd; done) | (rename_i z; cases z; done) | skip
  case _ i j _ =>
    cases hd
    obtain ⟨v, w, rfl, h1, h2⟩ := rd2 hv
    exact ⟨i, j, by rw [h1.int, h2.int], q _ (.int _)⟩
theorem bi_min2 : BiOk X .min2 rMin2 := bi_flat (by decide) fun S cc H vs ds d Q hv hd q => by
  unfold bltD at hd
  split at hd <;> first | (cases hd; done) | (rename_i z; cases z; done) | skip
  case _ i j _ =>
    cases hd
    obtain ⟨v, w, rfl, h1, h2⟩ := rd2 hv
    exact ⟨i, j, by rw [h1.int, h2.int], q _ (.int _)⟩
theorem bi_abs : BiOk X .abs rAbs1 := bi_flat (by decide) fun S cc H vs ds d Q hv hd q => by
  unfold bltD at hd
  split at hd <;> first | (cases hd; done) | (rename_i z; cases z; done) | skip
  case _ i _ =>
    cases hd
    obtain ⟨v, rfl, h1⟩ := rd1 hv
    exact ⟨i, by rw [h1.int], q _ (.int _)⟩
theorem bi_gcd : BiOk X .gcd rGcd := bi_flat (by decide) fun S cc H vs ds d Q hv hd q => by
  unfold bltD at hd
  split at hd <;> first | (cases hd; done) | (rename_i z; cases z; done) | skip
  case _ i j _ =>
    cases hd
    obtain ⟨v, w, rfl, h1, h2⟩ := rd2 hv
    exact ⟨i, j, by rw [h1.int, h2.int], q _ (.int _)⟩
def rInt1 : List V → Hp → VK → Prop := fun xs H Q => (∃ i, xs = [.int i] ∧ Q (.int i) H) ∨ ∃ k, xs = [.bl k] ∧ Q (.int (if k then 1 else 0)) H
theorem bi_int : BiOk X .int rInt1 := bi_flat (by decide) fun S cc H vs ds d Q hv hd q => by
  unfold bltD at hd
  split at hd <;> first | (cases hd; done) | (rename_i z; cases z; done) | skip
  case _ i _ =>
    cases hd
    obtain ⟨v, rfl, h1⟩ := rd1 hv
    exact .inl ⟨i, by rw [h1.int], q _ (.int _)⟩
theorem bi_all : BiOk X .all (rAll X.K) := bi_flat (by decide) fun S cc H vs ds d Q hv hd q => by
  unfold bltD at hd
  split at hd <;> first | (cases hd; done) | (rename_i z; cases z; done) | skip
  case _ xs _ =>
    simp only [Option.map_eq_some_iff] at hd
    obtain ⟨bs, e1, rfl⟩ := hd
    obtain ⟨v, rfl, h⟩ := rd1 hv
    obtain ⟨p, ys, rfl, h1, h2⟩ := h.list
    refine ⟨p, bs, rfl, ?_, q _ (.bl _)⟩
    rw [← da_bools h2 e1]
    exact SqL.of h1
theorem bi_any : BiOk X .any (rAny X.K) := bi_flat (by decide) fun S cc H vs ds d Q hv hd q => by
  unfold bltD at hd
  split at hd <;> first | (cases hd; done) | (rename_i z; cases z; done) | skip
  case _ xs _ =>
    simp only [Option.map_eq_some_iff] at hd
    obtain ⟨bs, e1, rfl⟩ := hd
    obtain ⟨v, rfl, h⟩ := rd1 hv
    obtain ⟨p, ys, rfl, h1, h2⟩ := h.list
    refine ⟨p, bs, rfl, ?_, q _ (.bl _)⟩
    rw [← da_bools h2 e1]
    exact SqL.of h1
def rTup1 (K : PySem.W.Frag) : List V → Hp → VK → Prop := fun xs H Q => ∃ p ys, xs = [.ref p] ∧ ((SqL K H p ys ∧ ∀ l, H l = none → Q (.ref l) (upd H l (.tup ys))) ∨ (SqT K H p ys ∧ Q (.ref p) H))
theorem bi_tuple : BiOk X .tuple (rTup1 X.K) := by
  intro en S cc env k σ H vs ds d Q R hv hd q
  unfold bltD at hd
  split at hd <;> first | (cases hd; done) | (rename_i z; cases z; done) | skip
  case _ xs _ =>
    cases hd
    obtain ⟨v, rfl, h⟩ := rd1 hv
    obtain ⟨p, ys, rfl, h1, h2⟩ := h.list
    refine ⟨p, ys, rfl, .inl ⟨SqL.of h1, fun l hl => ?_⟩⟩
    obtain ⟨a1, a2, a3, a4, a5⟩ := R.alloc (o := .tup ys) hl
    exact q _ _ a1 a2 ⟨.tup (SqT.of a5) (dqAll_mono a4 _ _ h2), fun z => nomatch z⟩
  case _ xs _ =>
    cases hd
    obtain ⟨v, rfl, h⟩ := rd1 hv
    have h' := h
    obtain ⟨p, ys, rfl, h1, h2⟩ := h.tup
    refine ⟨p, ys, rfl, .inr ⟨h1, q _ H (SameX.refl _ _) R.ckk ⟨?_, fun z => nomatch z⟩⟩⟩
    rcases h' with h | ⟨_, _, _, _, e, _⟩
    · exact h
    · cases e
def rList1 (K : PySem.W.Frag) : List V → Hp → VK → Prop := fun xs H Q => ∃ p ys, xs = [.ref p] ∧ (SqL K H p ys ∨ SqT K H p ys) ∧ ∀ l, H l = none → Q (.ref l) (upd H l (.lst ys))
theorem bi_list : BiOk X .list (rList1 X.K) := by
  intro en S cc env k σ H vs ds d Q R hv hd q
  unfold bltD at hd
  split at hd <;> first | (cases hd; done) | (rename_i z; cases z; done) | skip
  case _ xs _ =>
    cases hd
    obtain ⟨v, rfl, h⟩ := rd1 hv
    obtain ⟨p, ys, rfl, h1, h2⟩ := h.list
    refine ⟨p, ys, rfl, .inl (SqL.of h1), fun l hl => ?_⟩
    obtain ⟨b1, b2, b3, b4⟩ := new_list R hl h2
    exact q _ _ b1 b2 ⟨b3, fun _ => b4⟩
  case _ xs _ =>
    cases hd
    obtain ⟨v, rfl, h⟩ := rd1 hv
    obtain ⟨p, ys, rfl, h1, h2⟩ := h.tup
    refine ⟨p, ys, rfl, .inr h1, fun l hl => ?_⟩
    obtain ⟨b1, b2, b3, b4⟩ := new_list R hl h2
    exact q _ _ b1 b2 ⟨b3, fun _ => b4⟩

/-! ### repr -/
def rReprD (K : PySem.W.Frag) : List V → Hp → VK → Prop := fun xs H Q => ∃ v d, xs = [v] ∧ Dp K H v d ∧ d.showable = true ∧ d.hasDict = false ∧ d.depth ≤ 60 ∧ d.shown.length ≤ sizeLine ∧ Q (.str d.shown) H
theorem call_reprD (hg : X.A.guards = some []) (hu : X.A.units + 64 < cLine) : CallR X (.builtin "repr") (rReprD X.K) := by
  intro pins s σ H xs us Q I r h
  obtain ⟨v, d, rfl, hd, h1, h2, h3, h4, q⟩ := h
  obtain ⟨u, rfl, rv⟩ := Vals.one r
  obtain ⟨as, rd⟩ := Dp.reads I d v u hd rv
  have fin : ∀ tk h' t', (∀ b o, s.heap.get? b = some o → h'.get? b = some o) → EP X pins σ Q (.str d.shown tk) { s with heap := h', toks := t' } := fun tk h' t' k => ⟨.str d.shown, H, I.kept k, ⟨_, rfl⟩, q⟩
  cases d with
  | none =>
    cases rd
    exact PySem.P.repr_of_none (by simpa only [PyData.shown] using fin _ s.heap (s.toks + 1) fun _ _ e => e)
  | bool b =>
    cases rd
    exact PySem.P.repr_of_bool (by simpa only [PyData.shown] using fin _ s.heap (s.toks + 1) fun _ _ e => e)
  | int i =>
    cases rd
    exact PySem.P.repr_of_int (by simpa [PyData.showable] using h1) (by simpa only [PyData.shown] using fin _ s.heap (s.toks + 1) fun _ _ e => e)
  | str x =>
    cases rd
    exact PySem.P.repr_of_str (by simpa only [PyData.shown] using fin _ s.heap (s.toks + 1) fun _ _ e => e) (by simpa only [PyData.shown] using h4)
  | dict kvs => simp [PyData.hasDict] at h2
  | list xs =>
    have hr : ∃ a, u = .ref a := by cases rd; exact ⟨_, rfl⟩
    obtain ⟨a, rfl⟩ := hr
    exact repr_of_reads' rd h1 (PyData.noDict_hsm h2) hg (by omega) (fun _ _ e => e) (fun h' u tk k => fin u h' tk k) h4
  | tuple xs =>
    have hr : ∃ a, u = .ref a := by cases rd; exact ⟨_, rfl⟩
    obtain ⟨a, rfl⟩ := hr
    exact repr_of_reads' rd h1 (PyData.noDict_hsm h2) hg (by omega) (fun _ _ e => e) (fun h' u tk k => fin u h' tk k) h4
theorem bi_repr : BiOk X .repr (rReprD X.K) := bi_flat (by decide) fun S cc H vs ds d Q hv hd q => by
  unfold bltD at hd
  split at hd <;> first | (cases hd; done) | (rename_i z; cases z; done) | skip
  case _ x _ =>
    split at hd
    case isFalse => cases hd
    case isTrue hh =>
      cases hd
      simp only [Bool.and_eq_true, decide_eq_true_eq, Bool.not_eq_true'] at hh
      obtain ⟨⟨⟨z1, z2⟩, z3⟩, z4⟩ := hh
      obtain ⟨v, rfl, h⟩ := rd1 hv
      exact ⟨v, x, rfl, dq_dp _ _ h.full, z1, z2, z3, Nat.le_trans z4 (by decide), q _ (.str _)⟩
end
end Dn
set_option Elab.async false
set_option linter.all false
set_option maxRecDepth 100000
/-! Dn9: isinstance, bit_length; what is walked; comprehensions. -/
namespace Dn
open PySem PySem.Spec PyProof.Rows L2
def tyName : PyData → String
  | .none => "NoneType" | .bool _ => "bool" | .int _ => "int" | .str _ => "str" | .list _ => "list" | .tuple _ => "tuple" | .dict _ => "dict"
theorem ty_of {K : PySem.W.Frag} {H : Hp} {v : V} {d : PyData} (h : Dq K H v d) : TyX K H v (.type (tyName d)) := by
  cases h with
  | non => exact .base .non
  | bl b => exact .base (.bl b)
  | int i => exact .base (.int i)
  | str x => exact .base (.str x)
  | lst h _ => exact .base (.lst h)
  | tup h _ =>
    rcases h with (h | ⟨o, h⟩) | ⟨o, its, n, hk, hc, _⟩
    · exact .base (.tup h)
    · exact .fTuple h
    · exact .kTuple hk hc
def kindName : Bi → String
  | .isInt => "int" | .isBool => "bool" | .isTup => "tuple" | _ => "str"
def isK : Bi → Bool
  | .isInt | .isBool | .isTup | .isStr => true
  | _ => false
theorem kit_tab : ∀ n ∈ ["NoneType", "bool", "int", "str", "list", "tuple"], ∀ k ∈ ["int", "bool", "tuple", "str"], kitB n k = some (n == k || (n == "bool" && k == "int")) := by decide +kernel
theorem kit_of_data {K : PySem.W.Frag} {H : Hp} {v : V} {d : PyData} {b : Bi} (h : Dq K H v d) (hb : isK b = true) : kitB (tyName d) (kindName b) = some (isKind b d) := by
  have m1 : tyName d ∈ ["NoneType", "bool", "int", "str", "list", "tuple"] := by cases h <;> simp [tyName]
  have m2 : kindName b ∈ ["int", "bool", "tuple", "str"] := by cases b <;> simp [kindName, isK] at hb ⊢
  rw [kit_tab _ m1 _ m2]
  cases h <;> cases b <;> first | rfl | (simp [isK] at hb; done)
section
variable {X : Cx} {Φ : Phi} {G : Glo} {e a b : Expr} {es : List Expr} {c ca cb cc' : CE} {pos p : Pos} {m : Bool}
def rIsK (K : PySem.W.Frag) (n : String) : V → Hp → VK → Prop := fun x H Q => rIsi K [x, .ty n] H Q
def isKD (b : Bi) : PyData → Option PyData := fun d => some (.bool (isKind b d))
theorem isK_den {b : Bi} (hb : isK b = true) (m : Bool) (env : DEnv) (k : KS) : den Φ G (.blt b (.cons ca .nil)) m env k = (den Φ G ca true env k).bind fun r => (isKD b r.1).map fun d => (d, r.2) := by
  simp only [den, denA]
  cases den Φ G ca true env k with
  | none => rfl
  | some r =>
    obtain ⟨d, k1⟩ := r
    simp only [Option.bind_some, Option.map_some]
    cases b <;> first | rfl | (simp [isK] at hb; done)
theorem isK_ok {b : Bi} (hb : isK b = true) (en : En) (S : List Addr) (cc : Option Addr) (env : DEnv) (k : KS) (σ : St) (H : Hp) (x : V) (d1 d : PyData) (Q : VK) (R : SR X.K en S cc env k σ H) (hx : RdOk X.K S cc H x d1) (hd : isKD b d1 = some d)
    (q : ∀ v' H', SameX cc H H' → CkOk cc k H' → (Dq X.K (hide S H') v' d ∧ ((CE.blt b (.cons ca .nil)).fresh d = true → FreshOk X.K S H H' v' d)) → Q v' H') : rIsK X.K (kindName b) x H Q := by
  unfold isKD at hd
  cases hd
  exact ⟨x, _, _, _, _, rfl, .ty _, ty_of hx.full, kit_ty (kit_of_data hx.full hb), q _ H (SameX.refl _ _) R.ckk ⟨.bl _, fun z => by cases b <;> first | (cases z; done) | (simp [isK] at hb; done)⟩⟩
theorem boot_kind : ∀ n ∈ ["int", "bool", "tuple", "str"], bootBuiltins (Str.ofString n) = some (.type n) := by decide +kernel
theorem kind_in {b : Bi} (hb : isK b = true) : kindName b ∈ ["int", "bool", "tuple", "str"] := by cases b <;> simp [kindName, isK] at hb ⊢
theorem pe_isi {b : Bi} {p2 : Pos} {x t : Str} (hb : isK b = true) (hg : Gl X x) (hx : x = "isinstance") (hm : X.mg x = none) (hgt : Gl X t) (ht : t = Str.ofString (kindName b)) (hmt : X.mg t = none) (h : PE X a (T Φ G X.K true ca)) (hs : notStar a = true) :
    PE X (.Call (.Name x p) [a, .Name t p2] [] pos) (tUn (rIsK X.K (kindName b)) (T Φ G X.K true ca)) := by
  subst hx
  subst ht
  have e1 : Str.ofString (kindName b) ≠ "__name__" ∧ (Str.ofString (kindName b) == ("__debug__" : Str)) = false := by
    have h2 : ∀ n ∈ ["int", "bool", "tuple", "str"], Str.ofString n ≠ "__name__" ∧ (Str.ofString n == ("__debug__" : Str)) = false := by decide +kernel
    exact h2 _ (kind_in hb)
  have h2 : PE X (.Name (Str.ofString (kindName b)) p2) (tC (.ty (kindName b))) := pe_bltn hgt hmt (boot_kind _ (kind_in hb)) rfl e1.1 e1.2
  have h3 : PA X [a, .Name (Str.ofString (kindName b)) p2] (tCons (T Φ G X.K true ca) (tCons (tC (.ty (kindName b))) tNil)) := pa_cons h (pa_cons h2 pa_nil (star_cons rfl)) (star_cons hs)
  exact pe_imp (pe_callB call_isi hg hm boot_isinstance h3 (by decide) (by decide) (star_cons hs) (star_any fun y hy => by
    rcases List.mem_cons.mp hy with rfl | hy
    · rfl
    · cases hy)) fun σ H Q h => h
theorem t_isi {b : Bi} {p2 : Pos} {x t : Str} (hb : isK b = true) (hg : Gl X x) (hx : x = "isinstance") (hm : X.mg x = none) (hgt : Gl X t) (ht : t = Str.ofString (kindName b)) (hmt : X.mg t = none) (h : PE X a (T Φ G X.K true ca)) (hs : notStar a = true) :
    PE X (.Call (.Name x p) [a, .Name t p2] [] pos) (T Φ G X.K m (.blt b (.cons ca .nil))) := t_un1 (pe_isi hb hg hx hm hgt ht hmt h hs) (isK_ok hb) (isK_den hb)

def bitsD : PyData → Option PyData
  | .int i => some (.int (if i = 0 then 0 else (i.natAbs.log2 : Int) + 1))
  | _ => none
def rBitsV : V → Hp → VK → Prop := fun x H1 Q => ∃ i, x = .int i ∧ Q (.int (Builtin.Int.intBits i : Nat)) H1
theorem t_bits {ap : Pos} {y : Str} {py : Pos} (h : PE X (.Name y py) (T Φ G X.K true ca)) (hl : (ap.endLine == pos.line) = true) : PE X (.Call (.Attribute (.Name y py) "bit_length" ap) [] [] pos) (T Φ G X.K m (.blt .bits (.cons ca .nil))) :=
  t_un1 (r := rBitsV) (f := bitsD) (pe_bits h rfl hl) (fun en S cc env k σ H x d1 d Q R hx hd q => by
    cases d1 with
    | int i =>
      simp only [bitsD, Option.some.injEq] at hd
      subst hd
      refine ⟨i, hx.int, ?_⟩
      have e : ((Builtin.Int.intBits i : Nat) : Int) = if i = 0 then 0 else (i.natAbs.log2 : Int) + 1 := by
        unfold Builtin.Int.intBits
        by_cases h : i = 0 <;> simp [h]
      rw [e]
      exact q _ H (SameX.refl _ _) R.ckk ⟨.int _, fun z => nomatch z⟩
    | _ => simp [bitsD] at hd) fun m env k => by
      simp only [den, denA]
      cases den Φ G ca true env k with
      | none => rfl
      | some r =>
        obtain ⟨d, k1⟩ := r
        cases d <;> rfl
end
end Dn
set_option Elab.async false
set_option linter.all false
set_option maxRecDepth 100000
/-! Dn10: enumerate of a tuple. -/
namespace Dn
open PySem PySem.Spec PyProof.Rows L2
set_option maxHeartbeats 1000000 in
theorem enum_new1 {v : Value} {o : Obj} {H : Heap → Prop} (B : Begins v o H) :
    Meets (Builtin.«enumerate.__new__» ⟨[.type "enumerate", v], []⟩) (fun _ R s => H s.heap ∧
      R (.ok (.ret (.ref (s.heap.push o).objs.size))) { s with heap := (s.heap.push o).push { cls := .type "enumerate", data := .fields #[.none, .bool false, .ref s.heap.objs.size, rawInt 0, .none, .none] } }) :=
  .of_wp fun prog w A R s h => by
    obtain ⟨hp, g, d, tk, os⟩ := s
    obtain ⟨h1, h⟩ := h
    have hsub := sub_enumerate
    have begin_ : ∀ {A' : Around} {E : Value → Shared → Prop} {Q : Value → Shared → Prop}, Q (.ref hp.objs.size) ⟨hp.push o, g, d, tk, os⟩ → wpAny (model prog w) A' (pyIter v) Q E ⟨hp, g, d, tk, os⟩ :=
      fun q => B.iter prog w _ _ ⟨hp, g, d, tk, os⟩ _ h1 q
    wp_walk using begin_
    refine wpAny_stack_any fun st => wpAny_pure ?_
    split
    · rename_i c _ _ _ _ _
      by_cases hc : (c == Value.type "enumerate") = true
      · rw [hc]
        wp_walk using begin_
        exact ⟨_, rfl, h⟩
      · rw [Bool.not_eq_true] at hc
        rw [hc]
        wp_walk using begin_
        exact ⟨_, rfl, h⟩
    · wp_walk using begin_
      exact ⟨_, rfl, h⟩
theorem call_enum1 {prog : Program} {w : World} {A : Around} {E : Value → Shared → Prop} {s : Shared} {v : Value} {o : Obj} {H : Heap → Prop} {Q : Value → Shared → Prop} (B : Begins v o H) (h1 : H s.heap)
    (h : ∀ h', IsEnum h' (s.heap.objs.size + 1) s.heap.objs.size 0 .none → h'.get? s.heap.objs.size = some o → (∀ b u, s.heap.get? b = some u → h'.get? b = some u) → Q (.ref (s.heap.objs.size + 1)) { s with heap := h' }) :
    wpAny (model prog w) A (call (.type "enumerate") [v]) Q E s := by
  refine callType_new F.called_enumerate (by decide) (F.typeCall_enumerate_1 _) (F.newCall_enumerate_1 _) (fun obj => F.args_object_init_2 obj _) F.entry_enumerate_new (enum_new1 B) ⟨h1, ?_⟩
  have size1 : (s.heap.push o).objs.size = s.heap.objs.size + 1 := Heap.size_push ..
  show _ ∧ _
  rw [size1]
  have at1 := Heap.get?_push_size (s.heap.push o) (o := { cls := .type "enumerate", data := .fields #[.none, .bool false, .ref s.heap.objs.size, rawInt 0, .none, .none] }) rfl
  rw [size1] at at1
  refine ⟨⟨_, at1, rfl⟩, h _ at1 (Heap.get?_push_of_some _ (Heap.get?_push_size _ B.free)) fun b u x => Heap.get?_push_of_some _ (Heap.get?_push_of_some _ x)⟩
/-- the items of the tuple at a, each with its place in a new pair -/
def IteT (K : PySem.W.Frag) (a : Addr) : It where
  go := fun i H => ∃ (xs : List V) (x : V), SqT K H a xs ∧ xs[i]? = some x
  yld := fun i H v H' => ∃ T x, v = .ref T ∧ H T = none ∧ H' = upd H T (.tup [.int (i : Nat), x]) ∧ ∀ xs, SqT K H a xs → xs[i]? = some x
  stop := fun i H => ∃ xs : List V, SqT K H a xs ∧ xs.length ≤ i
theorem enumT_end {prog : Program} {w : World} {A : Around} {E : Value → Shared → Prop} {s : Shared} {e it t : Addr} {i : Nat} {items : Array Value} {old : Value} {Q : Option Value → Shared → Prop} (hh : A.handled = none)
    (he : IsEnum s.heap e it i old) (hit : s.heap.IsTupleIter it t i) (ht : s.heap.IsTuple t items) (hx : items[i]? = none) (hQ : ∀ h', Heap.ExtBut it s.heap h' → Q none { s with heap := h' }) : wpAny (model prog w) A (pyNext (.ref e)) Q E s := by
  have ty : s.TypeIs (.ref e) "enumerate" := ⟨_, he, rfl⟩
  unfold pyNext
  refine wpAny_bind (wpAny_attempt (wpAny_callSpecial?_slot (name := Str.ofString "__next__") ty F.slot_enumerate_next ?_))
  refine wpAny_call_entry F.slot_enumerate_next ty F.entry_enumerate_next ?_ (F.args_enumerate_next_1 _)
  show wpAny _ _ (field (.ref e) 2 >>= _) _ _ _
  refine wpAny_bind (wpAny_field he rfl (x := .ref it) rfl (wpAny_bind ?_))
  refine wpAny_nextOf_tuple_end hh hit ht hx fun h' x ext st => ?_
  obtain ⟨o, ho, hc⟩ := st
  exact wpAny_bind (wpAny_isInstance (T := "StopIteration") (b := true) ⟨o, ho, hc⟩ isSubtype_stop (wpAny_pure (hQ _ ext)))
theorem turn_enumT {P : Program} {w : World} {K : PySem.W.Frag} {elts : List Expr} {kk : Nat} {tpos : Pos} (a e it : Addr) (hea : e ≠ a) (hia : a ≠ it) :
    Turn P w K (.Tuple elts kk tpos) (IteT K a) [e, it] e (fun i h => (∃ old, IsEnum h e it ((i : Nat) : Int) old) ∧ h.IsTupleIter it a i ∧ e ≠ it) where
  mem := List.mem_cons_self ..
  obj := fun i h st b hb => by
    obtain ⟨⟨old, he⟩, ⟨o, ho, hc, hd⟩, _⟩ := st
    rcases List.mem_cons.mp hb with z | z
    · subst z
      exact ⟨_, he, fun v q => nomatch q⟩
    · have z2 : b = it := List.mem_singleton.mp z
      subst z2
      exact ⟨o, ho, fun v q => by rw [hd] at q; cases q⟩
  keep := fun i h h' st k => by
    obtain ⟨⟨old, he⟩, hi, hne⟩ := st
    exact ⟨⟨old, k e (List.mem_cons_self ..) _ he⟩, hi.at fun o q => k it (by simp) o q, hne⟩
  item := by
    intro X hP hw hK hc i pins s σ H E I hf st hg
    subst hP hw hK
    obtain ⟨⟨old, he⟩, hit, hne⟩ := st
    obtain ⟨xs, x, hq, hx⟩ := hg
    obtain ⟨its, rv, p, hz⟩ := I.tuple hq
    obtain ⟨u, hu, ru⟩ := rv.get hx
    have ltE : e < s.heap.objs.size := Heap.lt_size he
    have ltI : it < s.heap.objs.size := by
      obtain ⟨_, q, _⟩ := hit
      exact Heap.lt_size q
    have D := Draws.tuple (prog := X.prog) (w := X.w) (A := X.A.in1) (I.ok.hd hc) it a hia its.toArray
    have hi : i < its.toArray.size := by
      rw [List.size_toArray]
      exact (List.getElem?_eq_some_iff.mp hu).1
    refine wpAny_pyNext_enum_itemD D he ⟨hit, p⟩ hi hne (by simp [hne, hea]) fun y h' tk hy ho hst' hT hsz hk => ?_
    have ey : y = u := by
      have hy' : its.toArray[i]? = some y := hy
      rw [List.getElem?_toArray, hu] at hy'
      exact (Option.some.inj hy').symm
    subst ey
    refine ⟨_, rfl, wpAny_letOwnedTupleGo_enum (s := { s with heap := h', toks := tk + 1 }) ho fun h2 he2 sb => ?_⟩
    have hT2 := (sb.2 _ (Nat.ne_of_gt ltE)).trans hT
    have new : ObjOk X.prog X.w (upd H s.heap.objs.size (.tup [.int (i : Nat), x])) h2 s.heap.objs.size (.tup [.int (i : Nat), x]) :=
      ⟨by show 2 ≤ sizeLine; decide, [.int i tk, y], .cons ⟨_, rfl⟩ (.cons ru .nil), ⟨_, hT2, rfl, _, rfl⟩⟩
    have keep2 : ∀ b ob, b ∉ [e, it] → s.heap.get? b = some ob → h2.get? b = some ob := fun b ob hb q => by
      have n1 : b ≠ e := fun z => hb (by simp [z])
      have n2 : b ≠ it := fun z => hb (by simp [z])
      exact (sb.2 b n1).trans (hk b ob n1 n2 q)
    have I1 : Inv X pins σ (upd H s.heap.objs.size (.tup [.int (i : Nat), x])) { s with heap := h2, toks := tk + 1 } := I.turnedNew (ch := [e, it]) keep2 hf (Nat.le_refl _) new
    refine ⟨.ref s.heap.objs.size, _, I1, rfl, ⟨_, x, rfl, I.hok.fresh (Nat.le_refl _), rfl, fun ys hy => ?_⟩, ⟨⟨y, ?_⟩, hst'.1.at fun o q => (sb.2 it (Ne.symm hne)).trans q, hne⟩, fun b hb => ?_⟩
    · rw [I.tuple_inj hy hq]
      exact hx
    · have e1 : ((i + 1 : Nat) : Int) = (i : Int) + 1 := by omega
      rw [e1]
      exact he2
    · have lt : b < s.heap.objs.size := by
        rcases List.mem_cons.mp hb with z | z
        · rw [z]; exact ltE
        · rw [List.mem_singleton.mp z]; exact ltI
      rw [upd_ne (Nat.ne_of_lt lt)]
      exact (hf b hb).1
  done := by
    intro X hP hw hK hc i pins s σ H E I hf st hg
    subst hP hw hK
    obtain ⟨⟨old, he⟩, hit, hne⟩ := st
    obtain ⟨xs, hq, hx⟩ := hg
    obtain ⟨its, rv, p, hz⟩ := I.tuple hq
    obtain ⟨f0, f1, f2, f3, f4, f5⟩ := hf it (by simp)
    have hl := rv.length
    refine enumT_end (I.ok.hd hc) he hit (show s.heap.IsTuple a its.toArray from p) (by rw [List.getElem?_toArray]; exact List.getElem?_eq_none_iff.mpr (by omega)) fun h' eb => ⟨rfl, I.turned (t' := s.toks) (fun b o hb q => eb b o hb q) f0 f1 f3 f4 f5⟩
  self := fun A i s Q E st h => by
    obtain ⟨⟨_, he⟩, _⟩ := st
    exact wpAny_pyIter_enum he h
/-- enumerate(x), x a list or a tuple -/
def iEnumA (K : PySem.W.Frag) (te : TE) : TI := fun σ H R => te σ H fun v H1 => ∃ a xs, v = .ref a ∧ ((SqL K H1 a xs ∧ R (Ite K a) H1) ∨ (SqT K H1 a xs ∧ R (IteT K a) H1))
theorem pi_enumA {X : Cx} {e : Expr} {te : TE} {p pos tpos : Pos} {elts : List Expr} {kk : Nat} (hg : Gl X "enumerate") (hm : X.mg "enumerate" = none) (he : PE X e te) (hs : starEach [e] X.env = (false, eval e X.env) :: starEach [] X.env) :
    PI X (.Tuple elts kk tpos) (.Call (.Name "enumerate" p) [e] [] pos) (iEnumA X.K te) := by
  refine ⟨fun pins s σ H R I h => ?_⟩
  refine Call_ (ld_blt I hg hm boot_enumerate (PyProof.Rows.callWith_type1 (args_cons (thn (he.run pins s σ H _ I h) fun u s1 ⟨v, H1, I1, r1, q1⟩ => args_nil ?_) hs) hs rfl))
  obtain ⟨a, xs, ev, q⟩ := q1
  subst ev
  obtain rfl : u = Value.ref a := r1
  have fp2 : ∀ b ∈ [s1.heap.objs.size + 1, s1.heap.objs.size], FpOk X pins H1 b := fun b hb => by
    have hle : s1.heap.objs.size ≤ b := by
      rcases List.mem_cons.mp hb with z | z
      · rw [z]; exact Nat.le_add_right _ _
      · rw [List.mem_singleton.mp z]; exact Nat.le_refl _
    exact I1.fpOk hle (I1.hok.fresh hle)
  rcases q with ⟨hq, q⟩ | ⟨hq, q⟩
  · obtain ⟨its, rv, p', hz⟩ := I1.list hq
    refine call_enumerate_list p'.isList fun h' he' hit hsz hk => wpAny_pyIter_enum he' ?_
    exact ⟨s1.heap.objs.size + 1, [s1.heap.objs.size + 1, s1.heap.objs.size], _, _, H1, rfl, I1.kept (t' := s1.toks) hk, turn_enum a (s1.heap.objs.size + 1) s1.heap.objs.size, ⟨⟨.none, he'⟩, hit, Nat.succ_ne_self _⟩, fp2, q⟩
  · obtain ⟨its, rv, p', hz⟩ := I1.tuple hq
    obtain ⟨o1, ho1, _⟩ := id p'
    have lta : a < s1.heap.objs.size := Heap.lt_size ho1
    refine call_enum1 (begins_tuple a its.toArray) p' fun h' he' hit hk => wpAny_pyIter_enum he' ?_
    exact ⟨s1.heap.objs.size + 1, [s1.heap.objs.size + 1, s1.heap.objs.size], _, _, H1, rfl, I1.kept (t' := s1.toks) hk, turn_enumT a (s1.heap.objs.size + 1) s1.heap.objs.size (Nat.ne_of_gt (Nat.lt_succ_of_lt lta)) (Nat.ne_of_lt lta), ⟨⟨.none, he'⟩, ⟨_, hit, rfl, rfl⟩, Nat.succ_ne_self _⟩, fp2, q⟩
end Dn
set_option Elab.async false
set_option linter.all false
set_option maxRecDepth 100000
/-! Dn11: what is walked, targets, comprehensions. -/
namespace Dn
open PySem PySem.Spec PyProof.Rows L2
open RZ (ItzT iZipA pi_zipA)
open RT (ItvT iRevA pi_revA)
/-- an iterator yields the data xs, over frozen data B -/
def ItOk (K : PySem.W.Frag) (J : It) (xs : List PyData) (B : Hp) : Prop := ∀ H, Same B H →
  (∀ i d, xs[i]? = some d → J.go i H ∧ ∀ x H', J.yld i H x H' → SameX none H H' ∧ ∀ S, (∀ a ∈ S, H a ≠ none) → Same B (hide S H) → Dq K (hide S H') x d) ∧ J.stop xs.length H
/-- an iterable's reading -/
def TIr (Φ : Phi) (G : Glo) (K : PySem.W.Frag) (c : CI) : TI := fun σ H R => ∃ en S cc env k xs k', SR K en S cc env k σ H ∧ denI Φ G c env k = some (xs, k') ∧
  ∀ J H', SameX cc H H' → CkOk cc k' H' → ItOk K J xs (hide S H') → R J H'
section
variable {K : PySem.W.Frag} {S : List Addr} {H : Hp} {a b : Addr} {xs ys : List V} {ds es : List PyData}
theorem it_list (h : hide S H a = some (.lst xs)) (hd : DqAll K (hide S H) xs ds) : ItOk K (Itl K a) ds (hide S H) := fun H1 e => by
  have h1 := e _ _ h
  refine ⟨fun i d hi => ?_, xs, SqL.of h1, by rw [da_len hd]; exact Nat.le_refl _⟩
  obtain ⟨v, hv, hdq⟩ := da_get hd hi
  refine ⟨⟨xs, v, SqL.of h1, hv⟩, fun x H' y => ?_⟩
  obtain ⟨rfl, y⟩ := y
  have z := y xs (SqL.of h1)
  rw [hv] at z
  cases z
  exact ⟨SameX.refl _ _, fun S' _ e' => dq_mono e' _ _ hdq⟩
theorem it_tup (h : SqT K (hide S H) a xs) (hd : DqAll K (hide S H) xs ds) : ItOk K (Itt K a) ds (hide S H) := fun H1 e => by
  have h1 := sameT e h
  refine ⟨fun i d hi => ?_, xs, h1, by rw [da_len hd]; exact Nat.le_refl _⟩
  obtain ⟨v, hv, hdq⟩ := da_get hd hi
  refine ⟨⟨xs, v, h1, hv⟩, fun x H' y => ?_⟩
  obtain ⟨rfl, y⟩ := y
  have z := y xs h1
  rw [hv] at z
  cases z
  exact ⟨SameX.refl _ _, fun S' _ e' => dq_mono e' _ _ hdq⟩
theorem it_rng (B : Hp) (lo : Int) (n : Nat) : ItOk K (Itr lo n) (rngD lo n) B := fun H1 e => by
  have hl : (rngD lo n).length = n := by simp [rngD]
  refine ⟨fun i d hi => ?_, by rw [hl]; exact Nat.le_refl _⟩
  have hlt : i < n := by
    have := (List.getElem?_eq_some_iff.mp hi).1
    omega
  refine ⟨hlt, fun x H' y => ?_⟩
  obtain ⟨rfl, rfl⟩ := y
  have e2 : d = .int (lo + (i : Nat)) := by
    simp only [rngD, List.getElem?_map, List.getElem?_range hlt, Option.map_some, Option.some.injEq] at hi
    exact hi.symm
  subst e2
  exact ⟨SameX.refl _ _, fun _ _ _ => .int _⟩
theorem it_rngRev (B : Hp) (n : Nat) : ItOk K (Itc (0 + ((n : Nat) : Int) - 1) (-1) n) (rngD 0 n).reverse B := fun H1 e => by
  have hl : (rngD 0 n).length = n := by simp [rngD]
  have hl2 : (rngD 0 n).reverse.length = n := by rw [List.length_reverse, hl]
  refine ⟨fun i d hi => ?_, by rw [hl2]; exact Nat.le_refl _⟩
  have hlt : i < n := by
    have := (List.getElem?_eq_some_iff.mp hi).1
    omega
  refine ⟨hlt, fun x H' y => ?_⟩
  obtain ⟨rfl, rfl⟩ := y
  have e2 : d = .int (((n - 1 - i : Nat)) : Int) := by
    rw [List.getElem?_reverse (by rw [hl]; exact hlt), hl] at hi
    simp only [rngD, List.getElem?_map, List.getElem?_range (show n - 1 - i < n by omega), Option.map_some, Option.some.injEq] at hi
    rw [← hi]
    congr 1
    omega
  subst e2
  have e3 : (0 : Int) + (n : Nat) - 1 + (i : Nat) * (-1) = ((n - 1 - i : Nat) : Int) := by omega
  rw [e3]
  exact ⟨SameX.refl _ _, fun _ _ _ => .int _⟩
theorem itD_get : ∀ (ds : List PyData) (n i : Nat), (itD ds n)[i]? = (ds[i]?).map fun d => .tuple [.int ((n + i : Nat) : Int), d]
  | [], n, i => by simp [itD]
  | d :: ds, n, 0 => by simp [itD]
  | d :: ds, n, i + 1 => by
    simp only [itD, List.getElem?_cons_succ]
    rw [itD_get ds (n + 1) i]
    have e : n + 1 + i = n + (i + 1) := by omega
    rw [e]
theorem itD_len : ∀ (ds : List PyData) (n : Nat), (itD ds n).length = ds.length
  | [], _ => rfl
  | d :: ds, n => by simp [itD, itD_len ds (n + 1)]
theorem zip_get : ∀ (ds es : List PyData) (i : Nat) (d : PyData), (zipD ds es)[i]? = some d → ∃ x y, ds[i]? = some x ∧ es[i]? = some y ∧ d = .tuple [x, y]
  | [], es, i, d, h => by cases es <;> simp [zipD] at h
  | x :: ds, [], i, d, h => by simp [zipD] at h
  | x :: ds, y :: es, 0, d, h => by
    simp only [zipD, List.getElem?_cons_zero, Option.some.injEq] at h
    exact ⟨x, y, rfl, rfl, h.symm⟩
  | x :: ds, y :: es, i + 1, d, h => by
    simp only [zipD, List.getElem?_cons_succ] at h
    exact zip_get ds es i d h
theorem zip_len : ∀ (ds es : List PyData), ds.length ≤ (zipD ds es).length ∨ es.length ≤ (zipD ds es).length
  | [], es => .inl (Nat.zero_le _)
  | x :: ds, [] => .inr (Nat.zero_le _)
  | x :: ds, y :: es => by
    simp only [zipD, List.length_cons]
    rcases zip_len ds es with h | h
    · exact .inl (Nat.succ_le_succ h)
    · exact .inr (Nat.succ_le_succ h)
theorem pair_dq {B H1 : Hp} {T : Addr} {x y : V} {d e : PyData} (hT : H1 T = none) (h1 : Dq K B x d) (h2 : Dq K B y e) :
    SameX none H1 (upd H1 T (.tup [x, y])) ∧ ∀ S, (∀ a ∈ S, H1 a ≠ none) → Same B (hide S H1) → Dq K (hide S (upd H1 T (.tup [x, y]))) (.ref T) (.tuple [d, e]) := by
  refine ⟨SameX.upd hT, fun S hS e' => ?_⟩
  have nT : T ∉ S := fun m => hS T m hT
  have e2 : Same B (hide S (upd H1 T (.tup [x, y]))) := fun c o z => hide_same (cc := none) (SameX.upd hT) (fun c z => nomatch z) c o (e' c o z)
  refine .tup (SqT.of ?_) (.cons (dq_mono e2 _ _ h1) (.cons (dq_mono e2 _ _ h2) .nil))
  rw [hide_at nT, upd_same]
theorem it_enum (h : hide S H a = some (.lst xs)) (hd : DqAll K (hide S H) xs ds) : ItOk K (Ite K a) (itD ds 0) (hide S H) := fun H1 e => by
  have h1 := e _ _ h
  refine ⟨fun i d hi => ?_, xs, SqL.of h1, by rw [itD_len, da_len hd]; exact Nat.le_refl _⟩
  rw [itD_get, Option.map_eq_some_iff] at hi
  obtain ⟨d0, hi, rfl⟩ := hi
  obtain ⟨v, hv, hdq⟩ := da_get hd hi
  refine ⟨⟨xs, v, SqL.of h1, hv⟩, fun x H' y => ?_⟩
  obtain ⟨T, x0, rfl, hT, rfl, y⟩ := y
  have z := y xs (SqL.of h1)
  rw [hv] at z
  cases z
  rw [Nat.zero_add]
  exact pair_dq hT (.int _) hdq
theorem it_enumT (h : SqT K (hide S H) a xs) (hd : DqAll K (hide S H) xs ds) : ItOk K (IteT K a) (itD ds 0) (hide S H) := fun H1 e => by
  have h1 := sameT e h
  refine ⟨fun i d hi => ?_, xs, h1, by rw [itD_len, da_len hd]; exact Nat.le_refl _⟩
  rw [itD_get, Option.map_eq_some_iff] at hi
  obtain ⟨d0, hi, rfl⟩ := hi
  obtain ⟨v, hv, hdq⟩ := da_get hd hi
  refine ⟨⟨xs, v, h1, hv⟩, fun x H' y => ?_⟩
  obtain ⟨T, x0, rfl, hT, rfl, y⟩ := y
  have z := y xs h1
  rw [hv] at z
  cases z
  rw [Nat.zero_add]
  exact pair_dq hT (.int _) hdq
theorem it_zip (h : hide S H a = some (.lst xs)) (hd : DqAll K (hide S H) xs ds) (h' : hide S H b = some (.lst ys)) (hd' : DqAll K (hide S H) ys es) : ItOk K (Itz K a b) (zipD ds es) (hide S H) := fun H1 e => by
  have h1 := e _ _ h
  have h1' := e _ _ h'
  refine ⟨fun i d hi => ?_, xs, ys, SqL.of h1, SqL.of h1', by rw [da_len hd, da_len hd']; exact zip_len ds es⟩
  obtain ⟨d0, e0, z1, z2, rfl⟩ := zip_get _ _ _ _ hi
  obtain ⟨v, hv, hdq⟩ := da_get hd z1
  obtain ⟨v', hv', hdq'⟩ := da_get hd' z2
  refine ⟨⟨xs, ys, v, v', SqL.of h1, SqL.of h1', hv, hv'⟩, fun x H' y => ?_⟩
  obtain ⟨T, x0, y0, rfl, hT, rfl, y, y'⟩ := y
  have z := y xs (SqL.of h1)
  have z' := y' ys (SqL.of h1')
  rw [hv] at z
  rw [hv'] at z'
  cases z
  cases z'
  exact pair_dq hT hdq hdq'
theorem it_zipT (h : SqT K (hide S H) a xs) (hd : DqAll K (hide S H) xs ds) (h' : SqT K (hide S H) b ys) (hd' : DqAll K (hide S H) ys es) : ItOk K (ItzT K a b) (zipD ds es) (hide S H) := fun H1 e => by
  have h1 := sameT e h
  have h1' := sameT e h'
  refine ⟨fun i d hi => ?_, xs, ys, h1, h1', by rw [da_len hd, da_len hd']; exact zip_len ds es⟩
  obtain ⟨d0, e0, z1, z2, rfl⟩ := zip_get _ _ _ _ hi
  obtain ⟨v, hv, hdq⟩ := da_get hd z1
  obtain ⟨v', hv', hdq'⟩ := da_get hd' z2
  refine ⟨⟨xs, ys, v, v', h1, h1', hv, hv'⟩, fun x H' y => ?_⟩
  obtain ⟨T, x0, y0, rfl, hT, rfl, y, y'⟩ := y
  have z := y xs h1
  have z' := y' ys h1'
  rw [hv] at z
  rw [hv'] at z'
  cases z
  cases z'
  exact pair_dq hT hdq hdq'
theorem it_revL (h : hide S H a = some (.lst xs)) (hd : DqAll K (hide S H) xs ds) : ItOk K (Itv K a xs.length) ds.reverse (hide S H) := fun H1 e => by
  have h1 := e _ _ h
  have hl := da_len hd
  refine ⟨fun i d hi => ?_, by show xs.length ≤ ds.reverse.length; rw [List.length_reverse, hl]; exact Nat.le_refl _⟩
  have hlt : i < ds.length := by
    have := (List.getElem?_eq_some_iff.mp hi).1
    rw [List.length_reverse] at this
    exact this
  rw [List.getElem?_reverse hlt] at hi
  obtain ⟨v, hv, hdq⟩ := da_get hd hi
  rw [← hl] at hv
  refine ⟨⟨by omega, xs, v, SqL.of h1, hv⟩, fun x H' y => ?_⟩
  obtain ⟨rfl, y⟩ := y
  have z := y xs (SqL.of h1)
  rw [hv] at z
  cases z
  exact ⟨SameX.refl _ _, fun S' _ e' => dq_mono e' _ _ hdq⟩
theorem it_revT (h : SqT K (hide S H) a xs) (hd : DqAll K (hide S H) xs ds) : ItOk K (ItvT K a xs.length) ds.reverse (hide S H) := fun H1 e => by
  have h1 := sameT e h
  have hl := da_len hd
  refine ⟨fun i d hi => ?_, by show xs.length ≤ ds.reverse.length; rw [List.length_reverse, hl]; exact Nat.le_refl _⟩
  have hlt : i < ds.length := by
    have := (List.getElem?_eq_some_iff.mp hi).1
    rw [List.length_reverse] at this
    exact this
  rw [List.getElem?_reverse hlt] at hi
  obtain ⟨v, hv, hdq⟩ := da_get hd hi
  rw [← hl] at hv
  refine ⟨⟨by omega, xs, v, h1, hv⟩, fun x H' y => ?_⟩
  obtain ⟨rfl, y⟩ := y
  have z := y xs h1
  rw [hv] at z
  cases z
  exact ⟨SameX.refl _ _, fun S' _ e' => dq_mono e' _ _ hdq⟩
theorem Dq.isList {v : V} {ds : List PyData} (h : Dq K H v (.list ds)) : ∃ a xs, v = .ref a ∧ H a = some (.lst xs) ∧ DqAll K H xs ds := by
  cases h with
  | lst h1 h2 => exact ⟨_, _, rfl, h1, h2⟩
theorem Dq.isTup {v : V} {ds : List PyData} (h : Dq K H v (.tuple ds)) : ∃ a xs, v = .ref a ∧ SqT K H a xs ∧ DqAll K H xs ds := by
  cases h with
  | tup h1 h2 => exact ⟨_, _, rfl, h1, h2⟩
end
section
variable {X : Cx} {Φ : Phi} {G : Glo} {e a b tg : Expr} {ca cb : CE} {pos p : Pos}
def iSeqA (K : PySem.W.Frag) (tl : TE) : TI := fun σ H R => tl σ H fun x H1 => ∃ a xs, x = .ref a ∧ ((SqL K H1 a xs ∧ R (Itl K a) H1) ∨ (SqT K H1 a xs ∧ R (Itt K a) H1))
theorem pi_seqA {l : Expr} {tl : TE} (hl : PE X l tl) : PI X tg l (iSeqA X.K tl) := by
  refine ⟨fun pins s σ H R I h => thn (hl.run pins s σ H _ I h) fun v s1 hx => ?_⟩
  obtain ⟨x, H1, I1, r1, a, xs, rfl, q⟩ := hx
  obtain rfl : v = Value.ref a := r1
  have fp1 : ∀ b ∈ [s1.heap.objs.size], FpOk X pins H1 b := fun b hb => by
    rw [List.mem_singleton.mp hb]
    exact I1.fpOk (Nat.le_refl _) (I1.hok.fresh (Nat.le_refl _))
  rcases q with ⟨hq, q⟩ | ⟨hq, q⟩
  · obtain ⟨its, rv, p, hz⟩ := I1.list hq
    exact wpAny_pyIter_list p.isList ⟨_, [_], _, _, H1, rfl, I1.kept (t' := s1.toks) fun b o e => Heap.get?_push_of_some _ e, turn_list a _, ⟨_, Heap.get?_push_size _ rfl, rfl, rfl⟩, fp1, q⟩
  · obtain ⟨its, rv, p, hz⟩ := I1.tuple hq
    exact wpAny_pyIter_tuple (show s1.heap.IsTuple a its.toArray from p) ⟨_, [_], _, _, H1, rfl, I1.kept (t' := s1.toks) fun b o e => Heap.get?_push_of_some _ e, turn_tuple a _, ⟨_, Heap.get?_push_size _ rfl, rfl, rfl⟩, fp1, q⟩
theorem seqD_split {d : PyData} {xs : List PyData} (h : seqD d = some xs) : d = .list xs ∨ d = .tuple xs := by
  cases d <;> simp [seqD] at h
  · exact .inl (by rw [h])
  · exact .inr (by rw [h])
theorem ti_seq (h : PE X e (T Φ G X.K false ca)) : PI X tg e (TIr Φ G X.K (.seq ca)) := pi_imp (pi_seqA h) fun σ H R h => by
  obtain ⟨en, S, cc, env, k, xs, k', R0, hq, q⟩ := h
  simp only [denI, Option.bind_eq_some_iff, Option.map_eq_some_iff] at hq
  obtain ⟨⟨d, k1⟩, e1, ys, e2, e3⟩ := hq
  simp only [Prod.mk.injEq] at e3
  obtain ⟨rfl, rfl⟩ := e3
  refine ⟨en, S, cc, env, k, d, k1, R0, e1, fun x H1 s1 c1 v1 => ?_⟩
  rcases seqD_split e2 with rfl | rfl
  · obtain ⟨a, vs, rfl, h1, h2⟩ := v1.dq.isList
    exact ⟨a, vs, rfl, .inl ⟨SqL.of (hide_le _ _ h1), q _ H1 s1 c1 (it_list h1 h2)⟩⟩
  · obtain ⟨a, vs, rfl, h1, h2⟩ := v1.dq.isTup
    exact ⟨a, vs, rfl, .inr ⟨sameT hide_le h1, q _ H1 s1 c1 (it_tup h1 h2)⟩⟩
theorem ti_enum {elts : List Expr} {kk : Nat} {tpos : Pos} (hg : Gl X "enumerate") (hm : X.mg "enumerate" = none) (hs : notStar e = true) (h : PE X e (T Φ G X.K false ca)) :
    PI X (.Tuple elts kk tpos) (.Call (.Name "enumerate" p) [e] [] pos) (TIr Φ G X.K (.enum ca)) := pi_imp (pi_enumA hg hm h (star_cons hs)) fun σ H R h => by
  obtain ⟨en, S, cc, env, k, xs, k', R0, hq, q⟩ := h
  simp only [denI, Option.bind_eq_some_iff, Option.map_eq_some_iff] at hq
  obtain ⟨⟨d, k1⟩, e1, ys, e2, e3⟩ := hq
  simp only [Prod.mk.injEq] at e3
  obtain ⟨rfl, rfl⟩ := e3
  refine ⟨en, S, cc, env, k, d, k1, R0, e1, fun x H1 s1 c1 v1 => ?_⟩
  rcases seqD_split e2 with rfl | rfl
  · obtain ⟨a, vs, rfl, h1, h2⟩ := v1.dq.isList
    exact ⟨a, vs, rfl, .inl ⟨SqL.of (hide_le _ _ h1), q _ H1 s1 c1 (it_enum h1 h2)⟩⟩
  · obtain ⟨a, vs, rfl, h1, h2⟩ := v1.dq.isTup
    exact ⟨a, vs, rfl, .inr ⟨sameT hide_le h1, q _ H1 s1 c1 (it_enumT h1 h2)⟩⟩
theorem ti_revs (hg : Gl X "reversed") (hm : X.mg "reversed" = none) (hs : notStar e = true) (h : PE X e (T Φ G X.K false ca)) :
    PI X tg (.Call (.Name "reversed" p) [e] [] pos) (TIr Φ G X.K (.revs ca)) := pi_imp (pi_revA hg hm h (star_cons hs)) fun σ H R h => by
  obtain ⟨en, S, cc, env, k, xs, k', R0, hq, q⟩ := h
  simp only [denI, Option.bind_eq_some_iff, Option.map_eq_some_iff] at hq
  obtain ⟨⟨d, k1⟩, e1, ys, e2, e3⟩ := hq
  simp only [Prod.mk.injEq] at e3
  obtain ⟨rfl, rfl⟩ := e3
  refine ⟨en, S, cc, env, k, d, k1, R0, e1, fun x H1 s1 c1 v1 => ?_⟩
  rcases seqD_split e2 with rfl | rfl
  · obtain ⟨a, vs, rfl, h1, h2⟩ := v1.dq.isList
    exact ⟨a, vs, rfl, .inl ⟨SqL.of (hide_le _ _ h1), q _ H1 s1 c1 (it_revL h1 h2)⟩⟩
  · obtain ⟨a, vs, rfl, h1, h2⟩ := v1.dq.isTup
    exact ⟨a, vs, rfl, .inr ⟨sameT hide_le h1, q _ H1 s1 c1 (it_revT h1 h2)⟩⟩
theorem rngOk_le {i : Int} (h : rngOk i = true) : -1000000000 ≤ i ∧ i ≤ 1000000000 := by
  unfold rngOk at h
  simpa using h
theorem ti_rng (hg : Gl X "range") (hm : X.mg "range" = none) (hs : notStar e = true) (h : PE X e (T Φ G X.K true ca)) :
    PI X tg (.Call (.Name "range" p) [e] [] pos) (TIr Φ G X.K (.rng ca)) := pi_imp (pi_range1 hg hm (pa_cons h pa_nil (star_cons hs)) (star_cons hs)) fun σ H R h => by
  obtain ⟨en, S, cc, env, k, xs, k', R0, hq, q⟩ := h
  simp only [denI, Option.bind_eq_some_iff] at hq
  obtain ⟨⟨d, k1⟩, e1, e2⟩ := hq
  cases d with
  | int i =>
    simp only at e2
    split at e2
    case isFalse => cases e2
    case isTrue hr =>
      simp only [Option.some.injEq, Prod.mk.injEq] at e2
      obtain ⟨rfl, rfl⟩ := e2
      obtain ⟨b1, b2⟩ := rngOk_le hr
      exact ⟨en, S, cc, env, k, _, k1, R0, e1, fun x H1 s1 c1 v1 => ⟨i, by rw [v1.rd.int], by omega, by omega, q _ H1 s1 c1 (it_rng _ 0 i.toNat)⟩⟩
  | _ => simp at e2
theorem ti_rng2 (hg : Gl X "range") (hm : X.mg "range" = none) (hs : notStar a = true) (hs2 : notStar b = true) (h : PE X a (T Φ G X.K true ca)) (h2 : PE X b (T Φ G X.K true cb)) :
    PI X tg (.Call (.Name "range" p) [a, b] [] pos) (TIr Φ G X.K (.rng2 ca cb)) := pi_imp (pi_range2 hg hm (pa_cons h (pa_cons h2 pa_nil (star_cons hs2)) (star_cons hs)) (by rw [star_cons hs, star_cons hs2]; rfl) (star_cons hs2)) fun σ H R h => by
  obtain ⟨en, S, cc, env, k, xs, k', R0, hq, q⟩ := h
  simp only [denI, Option.bind_eq_some_iff] at hq
  obtain ⟨⟨d, k1⟩, e1, ⟨d2, k2⟩, e2, e3⟩ := hq
  cases d with
  | int i => cases d2 with
    | int j =>
      simp only at e3
      split at e3
      case isFalse => cases e3
      case isTrue hr =>
        simp only [Option.some.injEq, Prod.mk.injEq] at e3
        obtain ⟨rfl, rfl⟩ := e3
        obtain ⟨r1, r2⟩ := Bool.and_eq_true_iff.mp hr
        obtain ⟨b1, b2⟩ := rngOk_le r1
        obtain ⟨b3, b4⟩ := rngOk_le r2
        exact ⟨en, S, cc, env, k, _, k1, R0, e1, fun x H1 s1 c1 v1 => ⟨en, S, cc, env, k1, _, k2, R0.grow s1 c1, e2, fun y H2 s2 c2 v2 => ⟨i, j, by rw [v1.rd.int, v2.rd.int], ⟨by omega, by omega, by omega, by omega⟩, q _ H2 (s1.trans s2) c2 (it_rng _ i (j - i).toNat)⟩⟩⟩
    | _ => simp at e3
  | _ => simp at e3
theorem ti_revr {p2 p3 : Pos} (hg : Gl X "reversed") (hm : X.mg "reversed" = none) (hg2 : Gl X "range") (hm2 : X.mg "range" = none) (hs : notStar e = true) (h : PE X e (T Φ G X.K true ca)) :
    PI X tg (.Call (.Name "reversed" p) [.Call (.Name "range" p2) [e] [] p3] [] pos) (TIr Φ G X.K (.revr ca)) := pi_imp (pi_revR hg hm (prg_1 hg2 hm2 h (star_cons hs)) (star_cons rfl)) fun σ H R h => by
  obtain ⟨en, S, cc, env, k, xs, k', R0, hq, q⟩ := h
  simp only [denI, Option.bind_eq_some_iff] at hq
  obtain ⟨⟨d, k1⟩, e1, e2⟩ := hq
  cases d with
  | int i =>
    simp only at e2
    split at e2
    case isFalse => cases e2
    case isTrue hr =>
      simp only [Option.some.injEq, Prod.mk.injEq] at e2
      obtain ⟨rfl, rfl⟩ := e2
      obtain ⟨b1, b2⟩ := rngOk_le hr
      refine ⟨en, S, cc, env, k, _, k1, R0, e1, fun x H1 s1 c1 v1 => ⟨i, by rw [v1.rd.int], by omega, by omega, by omega, by omega, ?_⟩⟩
      have z := it_rngRev (K := X.K) (hide S H1) (i - 0).toNat
      have e3 : (i - 0).toNat = i.toNat := by rw [Int.sub_zero]
      rw [e3] at z
      show R (Itc (0 + (((i - 0).toNat : Nat) : Int) - 1) (-1) (i - 0).toNat) H1
      rw [e3]
      exact q _ H1 s1 c1 z
  | _ => simp at e2
theorem ti_zip {elts : List Expr} {kk : Nat} {tpos : Pos} (hg : Gl X "zip") (hm : X.mg "zip" = none) (hs : notStar a = true) (hs2 : notStar b = true) (h : PE X a (T Φ G X.K false ca)) (h2 : PE X b (T Φ G X.K false cb)) :
    PI X (.Tuple elts kk tpos) (.Call (.Name "zip" p) [a, b] [] pos) (TIr Φ G X.K (.zip ca cb)) := pi_imp (pi_zipA hg hm (pa_cons h (pa_cons h2 pa_nil (star_cons hs2)) (star_cons hs)) (star_cons hs) (star_any fun y hy => by rw [List.mem_singleton.mp hy]; exact hs2)) fun σ H R h => by
  obtain ⟨en, S, cc, env, k, xs, k', R0, hq, q⟩ := h
  simp only [denI, Option.bind_eq_some_iff] at hq
  obtain ⟨⟨d, k1⟩, e1, ⟨d2, k2⟩, e2, e3⟩ := hq
  refine ⟨en, S, cc, env, k, d, k1, R0, e1, fun x H1 s1 c1 v1 => ⟨en, S, cc, env, k1, d2, k2, R0.grow s1 c1, e2, fun y H2 s2 c2 v2 => ?_⟩⟩
  have w1 := dq_mono (hide_same s2 R0.ckS) _ _ v1.dq
  have w2 := v2.dq
  cases d with
  | list xs => cases d2 with
    | list ys =>
      simp only [Option.some.injEq, Prod.mk.injEq] at e3
      obtain ⟨rfl, rfl⟩ := e3
      obtain ⟨a, vs, rfl, h1, h2⟩ := w1.isList
      obtain ⟨b, ws, rfl, h3, h4⟩ := w2.isList
      exact ⟨a, b, vs, ws, rfl, .inl ⟨SqL.of (hide_le _ _ h1), SqL.of (hide_le _ _ h3), q _ H2 (s1.trans s2) c2 (it_zip h1 h2 h3 h4)⟩⟩
    | _ => simp at e3
  | tuple xs => cases d2 with
    | tuple ys =>
      simp only [Option.some.injEq, Prod.mk.injEq] at e3
      obtain ⟨rfl, rfl⟩ := e3
      obtain ⟨a, vs, rfl, h1, h2⟩ := w1.isTup
      obtain ⟨b, ws, rfl, h3, h4⟩ := w2.isTup
      exact ⟨a, b, vs, ws, rfl, .inr ⟨sameT hide_le h1, sameT hide_le h3, q _ H2 (s1.trans s2) c2 (it_zipT h1 h2 h3 h4)⟩⟩
    | _ => simp at e3
  | _ => simp at e3
end
end Dn
set_option Elab.async false
set_option linter.all false
set_option maxRecDepth 100000
/-! Dn12: targets, comprehensions. -/
namespace Dn
open PySem PySem.Spec PyProof.Rows L2
section
variable {K : PySem.W.Frag} {en : En} {S : List Addr} {cc : Option Addr} {env env' : DEnv} {k k' : KS} {σ : St} {H H' : Hp}
theorem SR.put (R : SR K en S cc env k σ H) {i : Nat} {s : Sl} {x : Option V} (h : i < env.length → SlOk K en S cc H (some x) s)
    (hu : ∀ d, s = .dat true d → ∀ (j : Nat) (a : Addr) (e : PyData), j ≠ i → env[j]? = some (.dat true e) → σ[j]? = some (some (.ref a)) → x ≠ some (.ref a)) : SR K en S cc (env.set i s) k (σ.set i x) H where
  same := R.same
  sub := R.sub
  s0 := R.s0
  trk := R.trk
  ck := R.ck
  ec := R.ec
  len := by rw [List.length_set, List.length_set]; exact R.len
  slots := fun j t e => by
    by_cases hj : i = j
    · subst hj
      by_cases hi : i < env.length
      · rw [List.getElem?_set_self hi] at e
        cases e
        rw [List.getElem?_set_self (by rw [← R.len]; exact hi)]
        exact h hi
      · rw [List.getElem?_eq_none (by rw [List.length_set]; omega)] at e
        cases e
    · rw [List.getElem?_set_ne hj] at e ⊢
      exact R.slots j t e
  inj := fun j l a d e e1 e2 e3 e4 => by
    have hlen := R.len
    have fact : ∀ {j : Nat} {d : PyData}, (env.set i s)[j]? = some (.dat true d) → (j = i ∧ s = .dat true d ∧ i < env.length) ∨ (j ≠ i ∧ env[j]? = some (.dat true d)) := fun {j d} z => by
      by_cases hj : i = j
      · subst hj
        by_cases hi : i < env.length
        · rw [List.getElem?_set_self hi] at z
          exact .inl ⟨rfl, Option.some.inj z, hi⟩
        · rw [List.getElem?_eq_none (by rw [List.length_set]; omega)] at z
          cases z
      · rw [List.getElem?_set_ne hj] at z
        exact .inr ⟨fun q => hj q.symm, z⟩
    rcases fact e1 with ⟨rfl, y1, i1⟩ | ⟨n1, y1⟩
    · rcases fact e2 with ⟨rfl, y2, i2⟩ | ⟨n2, y2⟩
      · rfl
      · rw [List.getElem?_set_self (by rw [← hlen]; exact i1)] at e3
        rw [List.getElem?_set_ne (fun q => n2 q.symm)] at e4
        exact absurd (Option.some.inj e3) (hu d y1 l a e n2 y2 e4)
    · rcases fact e2 with ⟨rfl, y2, i2⟩ | ⟨n2, y2⟩
      · rw [List.getElem?_set_self (by rw [← hlen]; exact i2)] at e4
        rw [List.getElem?_set_ne (fun q => n1 q.symm)] at e3
        exact absurd (Option.some.inj e4) (hu e y2 j a d n1 y1 e3)
      · rw [List.getElem?_set_ne (fun q => n1 q.symm)] at e3
        rw [List.getElem?_set_ne (fun q => n2 q.symm)] at e4
        exact R.inj j l a d e y1 y2 e3 e4
theorem SR.putD (R : SR K en S cc env k σ H) {i : Nat} {d : PyData} {v : V} (h : Dq K (hide S H) v d) : SR K en S cc (env.set i (.dat false d)) k (σ.set i (some v)) H :=
  R.put (fun _ => ⟨v, rfl, h⟩) fun _ z => nomatch z
theorem wipe_get : ∀ (vs : List Nat) (σ : St) (j : Nat), (wipe σ vs)[j]? = if j ∈ vs then (if j < σ.length then some none else none) else σ[j]?
  | [], σ, j => by simp [wipe]
  | v :: vs, σ, j => by
    unfold wipe
    by_cases h : v = j
    · subst h
      rw [if_pos (List.mem_cons_self ..)]
      by_cases hl : v < σ.length
      · rw [List.getElem?_set_self (by rw [wipe_length]; exact hl), if_pos hl]
      · rw [List.getElem?_eq_none (by rw [List.length_set, wipe_length]; omega), if_neg hl]
    · rw [List.getElem?_set_ne h, wipe_get vs σ j]
      by_cases m : j ∈ vs
      · rw [if_pos m, if_pos (List.mem_cons_of_mem _ m)]
      · rw [if_neg m, if_neg (fun z => by rcases List.mem_cons.mp z with z | z; exact h z.symm; exact m z)]
theorem SR.wipe (R : SR K en S cc env k σ H) : ∀ vs : List Nat, SR K en S cc (wipeD env vs) k (L2.wipe σ vs) H
  | [] => R
  | v :: vs => by
    unfold wipeD L2.wipe
    exact (R.wipe vs).put (fun _ => trivial) fun _ z => nomatch z
theorem wipeD_len (env : DEnv) : ∀ vs : List Nat, (wipeD env vs).length = env.length
  | [] => rfl
  | v :: vs => by
    unfold wipeD
    rw [List.length_set, wipeD_len env vs]
end

/-! ### targets -/
/-- a target's reading; the heap stays -/
def TGp (K : PySem.W.Frag) (p : Pat) : TG := fun v σ H Q => ∃ en S cc env k d env', SR K en S cc env k σ H ∧ Dq K (hide S H) v d ∧ bindP p d env = some env' ∧
  ∀ σ', SR K en S cc env' k σ' H → (∀ j, j ∉ patVars p → σ'[j]? = σ[j]?) → Q σ' H
def TGs' (K : PySem.W.Frag) (p : PatL) : TGs := fun vs σ H Q => ∃ en S cc env k ds env', SR K en S cc env k σ H ∧ DqAll K (hide S H) vs ds ∧ bindPL p ds env = some env' ∧
  ∀ σ', SR K en S cc env' k σ' H → (∀ j, j ∉ patVarsL p → σ'[j]? = σ[j]?) → Q σ' H
theorem pg_imp {X : Cx} {e : Expr} {t t' : TG} (h : PG X e t) (i : ∀ v σ H Q, t' v σ H Q → t v σ H Q) : PG X e t' := ⟨fun pins s σ H v u Q I r q => h.run pins s σ H v u Q I r (i _ _ _ _ q)⟩
theorem pgs_imp {X : Cx} {e : List Expr} {t t' : TGs} (h : PGs X e t) (i : ∀ v σ H Q, t' v σ H Q → t v σ H Q) : PGs X e t' := ⟨fun pins s σ H v u Q I r q => h.run pins s σ H v u Q I r (i _ _ _ _ q)⟩
theorem envSet_some {env env' : DEnv} {i : Nat} {s : Sl} (h : envSet env i s = some env') : i < env.length ∧ env' = env.set i s := by
  unfold envSet at h
  split at h
  · exact ⟨by assumption, (Option.some.inj h).symm⟩
  · cases h
theorem tg_one {X : Cx} {x : Str} {i : Nat} {pos : Pos} (hN : X.N.Nodup) (hi : X.N[i]? = some x) (hx : Loc X.env.scope x) (hf : X.fn x = true ∨ X.env.scope.names.lookup x = some .local) : PG X (.Name x pos) (TGp X.K (.one i)) :=
  pg_imp (pg_name hN hi hx hf) fun v σ H Q h => by
    obtain ⟨en, S, cc, env, k, d, env', R, hv, hb, q⟩ := h
    simp only [bindP] at hb
    obtain ⟨h1, rfl⟩ := envSet_some hb
    exact q _ (R.putD hv) fun j hj => List.getElem?_set_ne (fun z => hj (by simp [patVars, z]))
def noStars : Expr → Bool
  | .Starred .. => false
  | _ => true
theorem assign_len : ∀ (es : List Expr) (env : Env), (assignEach es env).length = es.length
  | [], _ => by simp [assignEach]
  | e :: es, env => by cases e <;> simp [assignEach, assign_len es env]
theorem assign_star : ∀ (es : List Expr) (env : Env), (∀ e ∈ es, notStar e = true) → (assignEach es env).findIdx? (·.1) = none
  | [], _, _ => by simp [assignEach]
  | e :: es, env, h => by
    have h1 := h e (List.mem_cons_self ..)
    have ih := assign_star es env fun y hy => h y (List.mem_cons_of_mem _ hy)
    have e1 : assignEach (e :: es) env = (false, assign e env) :: assignEach es env := by
      cases e <;> first | (simp [notStar] at h1; done) | simp only [assignEach]
    rw [e1, List.findIdx?_cons, ih]
    rfl
theorem assign_cons {e : Expr} {es : List Expr} {env : Env} (h : notStar e = true) : (assignEach (e :: es) env).map (·.2) = assign e env :: (assignEach es env).map (·.2) := by
  cases e <;> first | (simp [notStar] at h; done) | simp only [assignEach, List.map_cons]
theorem tg_tup {X : Cx} {es : List Expr} {kk : Nat} {pos : Pos} {p : PatL} (hc : X.calm = true) (h : PGs X es (TGs' X.K p)) (hs : ∀ e ∈ es, notStar e = true) (hl : ∀ ds env env', bindPL p ds env = some env' → ds.length = es.length) : PG X (.Tuple es kk pos) (TGp X.K (.tup p)) :=
  pg_imp (pg_tup hc h (assign_len es _) (assign_star es _ hs)) fun v σ H Q hh => by
    obtain ⟨en, S, cc, env, k, d, env', R, hv, hb, q⟩ := hh
    cases d with
    | tuple ds =>
      simp only [bindP] at hb
      obtain ⟨a, xs, rfl, h1, h2⟩ := hv.isTup
      exact ⟨a, xs, rfl, sameT hide_le h1, by rw [da_len h2]; exact hl _ _ _ hb, en, S, cc, env, k, ds, env', R, h2, hb, fun σ' R' e => q σ' R' fun j hj => e j (by simpa [patVars] using hj)⟩
    | _ => simp [bindP] at hb
theorem tgs_nil {X : Cx} : PGs X [] (TGs' X.K .nil) := pgs_imp pgs_nil fun v σ H Q h => by
  obtain ⟨en, S, cc, env, k, ds, env', R, hv, hb, q⟩ := h
  cases ds with
  | nil =>
    simp only [bindPL, Option.some.injEq] at hb
    subst hb
    cases hv
    exact ⟨rfl, q σ R fun _ _ => rfl⟩
  | cons d ds => simp [bindPL] at hb
theorem tgs_cons {X : Cx} {e : Expr} {es : List Expr} {p : Pat} {r : PatL} (h1 : PG X e (TGp X.K p)) (h2 : PGs X es (TGs' X.K r)) (hs : notStar e = true) : PGs X (e :: es) (TGs' X.K (.cons p r)) :=
  pgs_imp (pgs_cons h1 h2 (assign_cons hs)) fun v σ H Q h => by
    obtain ⟨en, S, cc, env, k, ds, env', R, hv, hb, q⟩ := h
    cases ds with
    | nil => simp [bindPL] at hb
    | cons d ds =>
      simp only [bindPL, Option.bind_eq_some_iff] at hb
      obtain ⟨e1, hb1, hb2⟩ := hb
      cases hv with
      | cons v1 v2 =>
        exact ⟨_, _, rfl, en, S, cc, env, k, d, e1, R, v1, hb1, fun σ1 R1 f1 => ⟨en, S, cc, e1, k, ds, env', R1, v2, hb2, fun σ2 R2 f2 => q σ2 R2 fun j hj => by
          simp only [patVarsL, List.mem_append, not_or] at hj
          rw [f2 j hj.2, f1 j hj.1]⟩⟩

mutual
theorem bindP_len : ∀ {p : Pat} {d : PyData} {env env' : DEnv}, bindP p d env = some env' → env'.length = env.length
  | .one i, d, env, env', h => by
    simp only [bindP] at h
    obtain ⟨_, rfl⟩ := envSet_some h
    rw [List.length_set]
  | .tup p, d, env, env', h => by
    cases d with
    | tuple ds =>
      simp only [bindP] at h
      exact bindPL_len h
    | _ => simp [bindP] at h
theorem bindPL_len : ∀ {p : PatL} {d : List PyData} {env env' : DEnv}, bindPL p d env = some env' → env'.length = env.length
  | .nil, d, env, env', h => by
    cases d with
    | nil =>
      simp only [bindPL, Option.some.injEq] at h
      rw [h]
    | cons _ _ => simp [bindPL] at h
  | .cons p r, d, env, env', h => by
    cases d with
    | nil => simp [bindPL] at h
    | cons d ds =>
      simp only [bindPL, Option.bind_eq_some_iff] at h
      obtain ⟨e1, h1, h2⟩ := h
      rw [bindPL_len h2, bindP_len h1]
end
/-! ### comprehensions -/
theorem tb_yes {X : Cx} {Φ : Phi} {G : Glo} : PTs X [] (TB Φ G X.K (.bl true)) := ⟨fun pins s σ H Q I h => by
  obtain ⟨en, S, cc, env, k, b, k', R, hq, q⟩ := h
  simp only [den, Option.some.injEq, Prod.mk.injEq, PyData.bool.injEq] at hq
  obtain ⟨rfl, rfl⟩ := hq
  exact pts_nil.run pins s σ H Q I (q H (SameX.refl _ _) R.ckk)⟩
theorem pts_imp {X : Cx} {e : List Expr} {t t' : TT} (h : PTs X e t) (i : ∀ σ H Q, t' σ H Q → t σ H Q) : PTs X e t' := ⟨fun pins s σ H Q I q => h.run pins s σ H Q I (i _ _ _ q)⟩
section
variable {K : PySem.W.Frag} {en : En} {S : List Addr} {cc : Option Addr} {env env' : DEnv} {k k' : KS} {σ : St} {H H' : Hp}
/-- a new list at D joins what is hidden -/
theorem SR.hideNew (R : SR K en S cc env k σ H) {D : Addr} {o : HO} (h : H D = none) : SR K en (D :: S) cc env k σ (upd H D o) := by
  obtain ⟨n1, n2⟩ := R.not_none h
  have enD : en.H D = none := by
    cases q : en.H D with
    | none => rfl
    | some u =>
      by_cases z : en.cc = some D
      · exact absurd h (R.ec D z)
      · rw [R.same D u z q] at h; cases h
  have hs : SameX cc H (upd H D o) := SameX.upd h
  refine ⟨R.same.trans (SameX.upd h), fun a m => List.mem_cons_of_mem _ (R.sub a m), R.s0, fun a m => ?_, fun c z => ?_, fun c z => ?_, R.len, fun i s e => ?_, R.inj⟩
  · by_cases e : a = D
    · subst e; rw [upd_same]; simp
    · rw [upd_ne e]
      rcases List.mem_cons.mp m with m | m
      · exact absurd m e
      · exact R.trk a m
  · obtain ⟨y1, y2, y3⟩ := R.ck c z
    exact ⟨List.mem_cons_of_mem _ y1, by rw [upd_ne (fun w => n2 (by rw [← w]; exact z))]; exact y2, y3⟩
  · have q := R.ec c z
    rw [upd_ne (fun w => q (by rw [w]; exact h))]
    exact q
  · have so := R.slots i s e
    cases s with
    | un => trivial
    | csk => exact so
    | scr ns =>
      obtain ⟨a, h1, h2, h3⟩ := SlOk.grow (K := K) (en := en) (S := S) (s := .scr ns) so hs R.ckS
      exact ⟨a, h1, h2, h3⟩
    | dat o d =>
      cases o with
      | false =>
        obtain ⟨x, h1, h2⟩ := so
        exact ⟨x, h1, dq_mono (hide_new h) _ _ h2⟩
      | true =>
        obtain ⟨a, xs, ds, h1, h2, h3, h4, h5, h6, h7⟩ := so
        exact ⟨a, xs, ds, h1, h2, List.mem_cons_of_mem _ h3, by rw [upd_ne (ne_of_none h4 h)]; exact h4, dqAll_mono (hide_new h) _ _ h5, h6, h7⟩
/-- nothing that the state knows stands at D -/
structure FreeAt (K : PySem.W.Frag) (en : En) (cc : Option Addr) (env : DEnv) (σ : St) (D : Addr) : Prop where
  own : ∀ (i : Nat) (d : PyData), env[i]? = some (.dat true d) → σ[i]? ≠ some (some (.ref D))
  scr : ∀ (i : Nat) (ns : List Int), env[i]? = some (.scr ns) → σ[i]? = some (some (.ref D)) → ∀ H', SqL K H' D (ns.map V.int)
  cc : cc ≠ some D
  en : en.H D = none
theorem SR.freeAt (R : SR K en S cc env k σ H) {D : Addr} (h : H D = none) : FreeAt K en cc env σ D := by
  refine ⟨fun i d e z => ?_, fun i ns e z H' => ?_, (R.not_none h).2, ?_⟩
  · obtain ⟨a, xs, ds, h1, h2, h3, h4, _⟩ := R.slots i _ e
    rw [h1] at z
    cases z
    rw [h] at h4; cases h4
  · obtain ⟨a, h1, h2, h3⟩ := R.slots i _ e
    rw [h1] at z
    cases z
    rcases h2 with (h2 | ⟨ob, h2⟩) | h2
    · rw [h] at h2; cases h2
    · rw [h] at h2; cases h2
    · exact .inr h2
  · cases q : en.H D with
    | none => rfl
    | some u =>
      by_cases z : en.cc = some D
      · exact absurd h (R.ec D z)
      · rw [R.same D u z q] at h; cases h
theorem FreeAt.wipe {D : Addr} (F : FreeAt K en cc env σ D) (vs : List Nat) : FreeAt K en cc (wipeD env vs) (L2.wipe σ vs) D := by
  have key : ∀ (i : Nat) (s : Sl), (wipeD env vs)[i]? = some s → s = .un ∨ (env[i]? = some s ∧ i ∉ vs) := by
    intro i s
    induction vs with
    | nil => intro e; exact .inr ⟨e, by simp⟩
    | cons v vs ih =>
      intro e
      unfold wipeD at e
      by_cases hv : v = i
      · subst hv
        by_cases hl : v < (wipeD env vs).length
        · rw [List.getElem?_set_self hl] at e
          exact .inl (Option.some.inj e).symm
        · rw [List.getElem?_eq_none (by rw [List.length_set]; omega)] at e
          cases e
      · rw [List.getElem?_set_ne hv] at e
        rcases ih e with z | ⟨z1, z2⟩
        · exact .inl z
        · exact .inr ⟨z1, fun z => by rcases List.mem_cons.mp z with z | z; exact hv z.symm; exact z2 z⟩
  refine ⟨fun i d e z => ?_, fun i ns e z => ?_, F.cc, F.en⟩
  · rcases key i _ e with q | ⟨q1, q2⟩
    · cases q
    · rw [wipe_get, if_neg q2] at z
      exact F.own i d q1 z
  · rcases key i _ e with q | ⟨q1, q2⟩
    · cases q
    · rw [wipe_get, if_neg q2] at z
      exact F.scr i ns q1 z
/-- a hidden list of no slot changes -/
theorem SR.write (R : SR K en S cc env k σ H) {D : Addr} {o : HO} (h : D ∈ S) (F : FreeAt K en cc env σ D) : SR K en S cc env k σ (upd H D o) := by
  refine ⟨fun b u z e => ?_, R.sub, R.s0, fun a m => ?_, fun c z => ?_, fun c z => ?_, R.len, fun i s e => ?_, R.inj⟩
  · rw [upd_ne (fun w => by rw [w, F.en] at e; cases e)]
    exact R.same b u z e
  · by_cases e : a = D
    · subst e; rw [upd_same]; simp
    · rw [upd_ne e]; exact R.trk a m
  · obtain ⟨y1, y2, y3⟩ := R.ck c z
    exact ⟨y1, by rw [upd_ne (fun w => F.cc (by rw [← w]; exact z))]; exact y2, y3⟩
  · by_cases e : c = D
    · subst e; rw [upd_same]; simp
    · rw [upd_ne e]; exact R.ec c z
  · have so := R.slots i s e
    have hh : hide S (upd H D o) = hide S H := hide_upd_in h
    cases s with
    | un => trivial
    | csk => exact so
    | scr ns =>
      obtain ⟨a, h1, h2, h3⟩ := so
      refine ⟨a, h1, ?_, h3⟩
      by_cases na : a = D
      · subst na
        exact F.scr i ns e h1 _
      · rcases h2 with (h2 | ⟨ob, h2⟩) | h2
        · exact .inl (.inl (by rw [upd_ne na]; exact h2))
        · exact .inl (.inr ⟨ob, by rw [upd_ne na]; exact h2⟩)
        · exact .inr h2
    | dat ow d =>
      cases ow with
      | false =>
        obtain ⟨x, h1, h2⟩ := so
        exact ⟨x, h1, by rw [hh]; exact h2⟩
      | true =>
        obtain ⟨a, xs, ds, h1, h2, h3, h4, h5, h6, h7⟩ := so
        refine ⟨a, xs, ds, h1, h2, h3, ?_, by rw [hh]; exact h5, h6, h7⟩
        rw [upd_ne (fun w => F.own i d e (by rw [h1, w]))]
        exact h4
end
section
variable {X : Cx} {Φ : Phi} {G : Glo} {elt tg iter : Expr} {ifs : List Expr} {scope : Scope} {own : List (Str × Nat)} {pos : Pos} {m : Bool} {p : Pat} {it : CI} {c e : CE} {wi : TI}
/-- one turn, as the small language has it -/
def turnD (Φ : Phi) (G : Glo) (p : Pat) (c e : CE) (env : DEnv) : PyData → KS → Option (Option PyData × KS) := fun x k => (bindP p x env).bind fun e1 =>
  (den Φ G c true e1 k).bind fun q => match q.1 with
    | .bool true => (den Φ G e false e1 q.2).map fun z => (some z.1, z.2)
    | .bool false => some (none, q.2)
    | _ => none
theorem turn_split {env : DEnv} {x : PyData} {k k' : KS} {r : Option PyData} (h : turnD Φ G p c e env x k = some (r, k')) :
    ∃ e1 b k1, bindP p x env = some e1 ∧ den Φ G c true e1 k = some (.bool b, k1) ∧ ((b = true ∧ ∃ y, den Φ G e false e1 k1 = some (y, k') ∧ r = some y) ∨ (b = false ∧ r = none ∧ k' = k1)) := by
  unfold turnD at h
  simp only [Option.bind_eq_some_iff] at h
  obtain ⟨e1, h1, ⟨d, k1⟩, h2, h3⟩ := h
  cases d with
  | bool b =>
    cases b with
    | true =>
      simp only [Option.map_eq_some_iff, Prod.mk.injEq] at h3
      obtain ⟨⟨y, k2⟩, h4, rfl, rfl⟩ := h3
      exact ⟨e1, true, k1, h1, h2, .inl ⟨rfl, y, h4, rfl⟩⟩
    | false =>
      simp only [Option.some.injEq, Prod.mk.injEq] at h3
      obtain ⟨rfl, rfl⟩ := h3
      exact ⟨e1, false, k1, h1, h2, .inr ⟨rfl, rfl, rfl⟩⟩
  | _ => simp at h3
theorem comp_read {σ : L2.St} {H : Hp} {Q : VK} (h : T Φ G X.K m (.comp p (patVars p) it c e) σ H Q) : tLc (TIr Φ G X.K it) (TGp X.K p) (TB Φ G X.K c) (T Φ G X.K false e) (patVars p) σ H Q := by
  obtain ⟨en, S, cc, env, k, d, k', R, hq, q⟩ := h
  simp only [den, Option.bind_eq_some_iff] at hq
  obtain ⟨⟨xs, k1⟩, e1, e2⟩ := hq
  split at e2
  case isTrue => cases e2
  case isFalse hlen =>
  simp only [Option.map_eq_some_iff] at e2
  obtain ⟨⟨ds, k2⟩, e2, e3⟩ := e2
  simp only [Prod.mk.injEq] at e3
  obtain ⟨rfl, rfl⟩ := e3
  have hlen' : xs.length ≤ 1000000 := lenOk_le (by simpa using hlen)
  change compD (turnD Φ G p c e (wipeD env (patVars p))) xs k1 = some (ds, k2) at e2
  refine ⟨en, S, cc, env, k, xs, k1, R, e1, fun J H1 s1 c1 ok D hD => ?_⟩
  have R1 := R.grow s1 c1
  have F := (R1.freeAt hD).wipe (patVars p)
  have R2 := (R1.wipe (patVars p)).hideNew (o := .lst []) hD
  have base : Same (hide S H1) (hide (D :: S) (upd H1 D (.lst []))) := hide_new hD
  have hDS : D ∉ S := (R1.not_none hD).1
  refine ⟨fun i n H => n = xs.length - i ∧ i ≤ xs.length ∧ ∃ ki acc da rest, SR X.K en (D :: S) cc (wipeD env (patVars p)) ki (L2.wipe σ (patVars p)) H ∧ H D = some (.lst acc) ∧ DqAll X.K (hide (D :: S) H) acc da ∧
    Same (hide S H1) (hide (D :: S) H) ∧ compD (turnD Φ G p c e (wipeD env (patVars p))) (xs.drop i) ki = some (rest, k2) ∧ da ++ rest = ds ∧ acc.length ≤ i ∧ SameX cc H1 H, ⟨_, rfl, Nat.zero_le _, k1, [], [], ds, R2, upd_same, .nil, base, e2, rfl, Nat.le_refl _, SameX.upd hD⟩, ?_⟩
  rintro i n H2 ⟨rfl, hi, ki, acc, da, rest, R3, hacc, hda, hb, hc, hds, hal, s2⟩
  obtain ⟨J1, J2⟩ := ok H2 (fun b o z => hide_le _ _ (hb b o z))
  by_cases hlt : i < xs.length
  · have hx : xs[i]? = some xs[i] := List.getElem?_eq_getElem hlt
    obtain ⟨hgo, hy⟩ := J1 i _ hx
    refine .inr ⟨hgo, fun H' => i + 1 ≤ xs.length ∧ ∃ ki acc da rest, SR X.K en (D :: S) cc (wipeD env (patVars p)) ki (L2.wipe σ (patVars p)) H' ∧ H' D = some (.lst acc) ∧ DqAll X.K (hide (D :: S) H') acc da ∧
      Same (hide S H1) (hide (D :: S) H') ∧ compD (turnD Φ G p c e (wipeD env (patVars p))) (xs.drop (i + 1)) ki = some (rest, k2) ∧ da ++ rest = ds ∧ acc.length ≤ i + 1 ∧ SameX cc H1 H', fun H' z => ⟨_, by omega, rfl, z⟩, fun x H3 y3 => ?_⟩
    obtain ⟨sx, dx⟩ := hy x H3 y3
    have sx' : SameX cc H2 H3 := fun b o _ z => sx b o (fun w => nomatch w) z
    rw [List.drop_eq_getElem_cons hlt] at hc
    simp only [compD, Option.bind_eq_some_iff, Option.map_eq_some_iff] at hc
    obtain ⟨⟨r1, kn⟩, hc1, ⟨rs, kf⟩, hc2, hc3⟩ := hc
    simp only [Prod.mk.injEq] at hc3
    obtain ⟨hc3, rfl⟩ := hc3
    obtain ⟨ee, b, kb, t1, t2, t3⟩ := turn_split hc1
    have ck3 : CkOk cc ki H3 := fun a z => by
      have q := R3.ckk a z
      exact sx a _ (fun w => nomatch w) q
    have R4 := R3.grow sx' ck3
    refine ⟨en, D :: S, cc, wipeD env (patVars p), ki, xs[i], ee, R4, dx _ R3.trk hb, t1, fun σ2 R5 hσ => ⟨?_, ?_⟩⟩
    · refine List.ext_getElem? fun j => ?_
      have hl2 : σ2.length = σ.length := by
        have l1 := R5.len
        have l2 := R4.len
        have l3 : ee.length = (wipeD env (patVars p)).length := bindP_len t1
        rw [wipe_length] at l2
        omega
      rw [wipe_get, wipe_get, hl2]
      by_cases hj : j ∈ patVars p
      · rw [if_pos hj, if_pos hj]
      · rw [if_neg hj, if_neg hj, hσ j hj, wipe_get, if_neg hj]
    · refine ⟨en, D :: S, cc, ee, ki, b, kb, R5, t2, fun H4 s4 c4 => ?_⟩
      have R6 := R5.grow s4 c4
      have hDne : cc ≠ some D := F.cc
      rcases t3 with ⟨rfl, y, t4, rfl⟩ | ⟨rfl, rfl, rfl⟩
      · refine iteT ?_
        refine ⟨en, D :: S, cc, ee, kb, y, kn, R6, t4, fun v H5 s5 c5 v5 => ?_⟩
        have v5' := v5.dq
        have s25 : SameX cc H2 H5 := (sx'.trans s4).trans s5
        have accH : H5 D = some (.lst acc) := s25 D _ hDne hacc
        have R7 := R3.grow s25 c5
        have fr : Same (hide (D :: S) H2) (hide (D :: S) H5) := hide_same s25 R3.ckS
        refine ⟨acc, accH, Nat.lt_of_le_of_lt (show acc.length ≤ 1000000 by omega) (by decide), hlt, kn, acc ++ [v], da ++ [y], rs, R7.write (List.mem_cons_self ..) F, upd_same, ?_, ?_, hc2, ?_, ?_, ?_⟩
        · rw [hide_upd_in (List.mem_cons_self ..)]
          exact da_app (dqAll_mono fr _ _ hda) (.cons v5' .nil)
        · rw [hide_upd_in (List.mem_cons_self ..)]
          exact hb.trans fr
        · rw [List.append_assoc, ← hds, ← hc3]
          rfl
        · rw [List.length_append, List.length_singleton]; omega
        · intro b o z w
          have hbD : b ≠ D := ne_of_none w hD
          rw [upd_ne hbD]
          exact s25 b o z (s2 b o z w)
      · refine iteF ?_
        have s24 : SameX cc H2 H4 := sx'.trans s4
        have fr : Same (hide (D :: S) H2) (hide (D :: S) H4) := hide_same s24 R3.ckS
        refine ⟨hlt, kn, acc, da, rs, R3.grow s24 c4, s24 D _ hDne hacc, dqAll_mono fr _ _ hda, hb.trans fr, hc2, by rw [← hds, ← hc3], by omega, s2.trans s24⟩
  · have ei : i = xs.length := by omega
    subst ei
    refine .inl ⟨J2, ?_⟩
    rw [List.drop_length] at hc
    simp only [compD, Option.some.injEq, Prod.mk.injEq] at hc
    obtain ⟨rfl, rfl⟩ := hc
    rw [List.append_nil] at hds
    subst hds
    refine q (.ref D) H2 (s1.trans s2) R3.ckk (.mk ⟨D, acc, da, rfl, R.none_back s1 c1 hD, hacc, rfl, hda⟩ fun p h => (R.not_none h).1)
end
end Dn
set_option Elab.async false
set_option linter.all false
set_option maxRecDepth 100000
/-! Dn13: the compiler keeps meanings: expressions. -/
namespace Dn
open PySem PySem.Spec PyProof.Rows L2
/-- the built-in names that the compiler knows -/
def bltNames : List Str := ["divmod", "len", "abs", "tuple", "list", "repr", "int", "all", "any", "max", "min", "isinstance", "bool", "str", "range", "enumerate", "zip", "reversed"]
/-- what a call of the def id that makes the cask stands on -/
structure MakeOk (X : Cx) (Φ : Phi) (id : Nat) (x : Str) : Prop where
  ex : ∃ (k : Nat) (f : Addr) (fd : FuncData) (ps : List Str), FnG X.prog X.w X.K X.mg X.base k f fd ps (spM X.K ps.length (Φ id)) ∧ Room k X.A ∧ X.mg x = some (.ref f) ∧ PySem.W.keepIn X.K (.ref f) = true ∧ Binds X.K fd ps [] ∧
    ∀ as k r, Φ id as k = some r → as.length = ps.length
  gd : X.A.guards = some []
structure Wf (X : Cx) (Γ : Ctx) (Φ : Phi) (G : Glo) : Prop where
  loc0 : ∀ x, Γ.sc.names.lookup x = some .local → X.env.scope.names.lookup x = some .local
  cel0 : ∀ x, Γ.sc.names.lookup x = some .cell → X.env.scope.names.lookup x = some .cell
  fre0 : ∀ x, Γ.sc.names.lookup x = some .free → X.env.scope.names.lookup x = some .cell ∨ X.env.scope.names.lookup x = some .free
  glb0 : ∀ x, Γ.sc.names.lookup x = some .globalImplicit → X.env.scope.names.lookup x = some .globalImplicit
  N : X.N = Γ.N
  nd : X.N.Nodup
  calm : X.calm = true
  fn : ∀ x, Γ.sc.names.lookup x = some .cell → X.fn x = true
  calls : ∀ x id, Γ.fids.lookup x = some id → CallOk X Φ id x
  makes : ∀ x id, Γ.mks.lookup x = some id → MakeOk X Φ id x
  glos : ∀ x g, Γ.gids.lookup x = some g → ∃ v u d, G g = some d ∧ X.mg x = some u ∧ RelV v u ∧ ∀ H, Dq X.K H v d
  frees : ∀ x ∈ bltNames, X.mg x = none
  gcd : X.mg "gcd" = some (.builtin "math.gcd")
  wx : Wx X
  units : X.A.units + 64 < cLine
  guards : X.A.guards = some []
theorem relab0 (f : Str → NameKind → NameKind) : ∀ (names : List (Str × NameKind)) (x : Str) (k : NameKind), names.lookup x = some k → (names.map fun q => (q.1, f q.1 q.2)).lookup x = some (f x k)
  | [], x, k, h => by simp at h
  | (n, q) :: r, x, k, h => by
    rw [List.map_cons, List.lookup_cons] at *
    by_cases e : (x == n) = true
    · simp only [e] at h ⊢
      cases h
      rw [eq_of_beq e]
    · simp only [Bool.not_eq_true] at e
      simp only [e] at h ⊢
      exact relab0 f r x k h
theorem relab_eq {scope : Scope} {env : Env} {x : Str} {k : NameKind} (h : scope.names.lookup x = some k) :
    (relabel scope env).names.lookup x = some (if (k == .free && env.scope.kind == .function && env.kindOf x == some .cell) = true then .cell else k) := by
  have q := relab0 (fun x k => if (k == .free && env.scope.kind == .function && env.kindOf x == some .cell) = true then .cell else k) scope.names x k h
  have e : (relabel scope env).names = scope.names.map fun q => (q.1, if (q.2 == .free && env.scope.kind == .function && env.kindOf q.1 == some .cell) = true then .cell else q.2) := by
    unfold relabel
    refine List.map_congr_left fun p _ => ?_
    obtain ⟨n, k⟩ := p
    show (if _ then (n, NameKind.cell) else (n, k)) = (n, if _ then NameKind.cell else k)
    split <;> rfl
  rw [e]
  exact q
theorem relab {scope : Scope} {env : Env} {x : Str} {k : NameKind} (h : scope.names.lookup x = some k) (hk : k ≠ .free) : (relabel scope env).names.lookup x = some k := by
  rw [relab_eq h]
  have e : (k == NameKind.free) = false := beq_eq_false_iff_ne.mpr hk
  rw [e]
  rfl
theorem relab_free {scope : Scope} {env : Env} {x : Str} (h : scope.names.lookup x = some .free) : (relabel scope env).names.lookup x = some .cell ∨ (relabel scope env).names.lookup x = some .free := by
  rw [relab_eq h]
  split
  · exact .inl rfl
  · exact .inr rfl
theorem Wf.blk {X : Cx} {Γ : Ctx} {Φ : Phi} {G : Glo} (W : Wf X Γ Φ G) (s : Shared) (H : Hp) (scope : Scope) (C : Addr) (cl : List (Str × Addr)) (fp : List Addr) : Wf (X.blk s H scope (compEnvC scope cl C X.env) fp) { Γ with sc := scope } Φ G where
  loc0 := fun x e => relab (show scope.names.lookup x = some .local from e) (by simp)
  cel0 := fun x e => relab (show scope.names.lookup x = some .cell from e) (by simp)
  fre0 := fun x e => relab_free (show scope.names.lookup x = some .free from e)
  glb0 := fun x e => relab (show scope.names.lookup x = some .globalImplicit from e) (by simp)
  N := W.N
  nd := W.nd
  calm := W.calm
  fn := fun x e => by
    show (scope.names.lookup x == some .cell) = true
    rw [show scope.names.lookup x = some .cell from e]
    rfl
  calls := fun x id e => ⟨(W.calls x id e).ex, (W.calls x id e).gd⟩
  makes := fun x id e => ⟨(W.makes x id e).ex, (W.makes x id e).gd⟩
  glos := W.glos
  frees := W.frees
  gcd := W.gcd
  wx := ⟨W.wx.seer, W.wx.tree, W.wx.stack, W.wx.deep⟩
  units := W.units
  guards := W.guards
section
variable {X : Cx} {Γ : Ctx} {Φ : Phi} {G : Glo}
theorem loc_split {x : Str} {i : Nat} (h : Γ.loc x = some i) : Γ.N[i]? = some x ∧ (Γ.sc.names.lookup x = some .local ∨ Γ.sc.names.lookup x = some .cell ∨ Γ.sc.names.lookup x = some .free) ∧ x ≠ "__debug__" ∧ x ≠ "__classdict__" := by
  have key : (if x = "__debug__" ∨ x = "__classdict__" then none else Γ.N.findIdx? (fun y => decide (y = x))) = some i → Γ.N[i]? = some x ∧ x ≠ "__debug__" ∧ x ≠ "__classdict__" := fun z => by
    split at z
    · cases z
    · rename_i hne
      rw [List.findIdx?_eq_some_iff_getElem] at z
      obtain ⟨hl, hp, _⟩ := z
      have e := of_decide_eq_true hp
      exact ⟨by rw [List.getElem?_eq_getElem hl, e], fun q => hne (.inl q), fun q => hne (.inr q)⟩
  unfold Ctx.loc at h
  split at h
  · rename_i e
    obtain ⟨a, b, c⟩ := key h
    exact ⟨a, .inl e, b, c⟩
  · rename_i e
    obtain ⟨a, b, c⟩ := key h
    exact ⟨a, .inr (.inl e), b, c⟩
  · rename_i e
    obtain ⟨a, b, c⟩ := key h
    exact ⟨a, .inr (.inr e), b, c⟩
  · cases h
theorem Wf.divm (W : Wf X Γ Φ G) : X.mg "divmod" = none := W.frees _ (List.mem_cons_self ..)
theorem ne_beq {x y : Str} (h : x ≠ y) : (x == y) = false := beq_eq_false_iff_ne.mpr h
theorem Wf.vis (W : Wf X Γ Φ G) {x : Str} {i : Nat} (h : Γ.loc x = some i) : X.N[i]? = some x ∧ Vis X.env.scope x ∧ (x == ("__debug__" : Str)) = false ∧ (x == ("__classdict__" : Str)) = false := by
  obtain ⟨h1, h2, h3, h4⟩ := loc_split h
  refine ⟨by rw [W.N]; exact h1, ?_, ne_beq h3, ne_beq h4⟩
  rcases h2 with h2 | h2 | h2
  · exact .inl (W.loc0 x h2)
  · exact .inr (.inl (W.cel0 x h2))
  · exact .inr (W.fre0 x h2)
theorem Wf.gl (W : Wf X Γ Φ G) {x : Str} (h : Γ.glb x = true) : Gl X x ∧ (x == ("__debug__" : Str)) = false := by
  unfold Ctx.glb at h
  simp only [Bool.and_eq_true, decide_eq_true_eq, Bool.not_eq_true', decide_eq_false_iff_not] at h
  refine ⟨?_, ne_beq h.2⟩
  exact W.glb0 x h.1

/-! ### targets -/
theorem opt_map {α β : Type} {f : α → β} {o : Option α} {b : β} (h : o.map f = some b) : ∃ a, o = some a ∧ f a = b := Option.map_eq_some_iff.mp h
theorem opt_bind {α β : Type} {f : α → Option β} {o : Option α} {b : β} (h : o.bind f = some b) : ∃ a, o = some a ∧ f a = some b := Option.bind_eq_some_iff.mp h
def lenPL : PatL → Nat
  | .nil => 0
  | .cons _ r => lenPL r + 1
theorem bindPL_ln : ∀ {p : PatL} {ds : List PyData} {env env' : DEnv}, bindPL p ds env = some env' → ds.length = lenPL p
  | .nil, ds, _, _, h => by cases ds <;> simp [bindPL] at h; rfl
  | .cons p r, ds, env, env', h => by
    cases ds with
    | nil => simp [bindPL] at h
    | cons d ds =>
      simp only [bindPL, Option.bind_eq_some_iff] at h
      obtain ⟨e1, _, h2⟩ := h
      simp only [List.length_cons, lenPL]
      rw [bindPL_ln h2]
theorem pat_ok (W : Wf X Γ Φ G) : ∀ n, (∀ e p, cmpPat Γ n e = some p → PG X e (TGp X.K p) ∧ notStar e = true) ∧
    (∀ es p, cmpPatL Γ n es = some p → PGs X es (TGs' X.K p) ∧ (∀ e ∈ es, notStar e = true) ∧ lenPL p = es.length)
  | 0 => ⟨fun e p h => by simp [cmpPat] at h, fun es p h => by simp [cmpPatL] at h⟩
  | n + 1 => by
    obtain ⟨ih1, ih2⟩ := pat_ok W n
    refine ⟨fun e p h => ?_, fun es p h => ?_⟩
    · unfold cmpPat at h
      split at h
      · rename_i m x pos e1
        cases e1
        obtain ⟨i, h1, rfl⟩ := opt_map h
        have hl : Γ.loc x = some i ∧ (Γ.sc.names.lookup x = some .local ∨ Γ.sc.names.lookup x = some .cell) := by
          split at h1
          · rename_i q; exact ⟨h1, .inl q⟩
          · rename_i q; exact ⟨h1, .inr q⟩
          · cases h1
        obtain ⟨v1, v2, _, _⟩ := W.vis hl.1
        refine ⟨tg_one W.nd v1 (hl.2.imp (W.loc0 x) (W.cel0 x)) ?_, rfl⟩
        rcases hl.2 with q | q
        · exact .inr (W.loc0 x q)
        · exact .inl (W.fn x q)
      · rename_i m es k pos e1
        cases e1
        obtain ⟨q, h1, rfl⟩ := opt_map h
        obtain ⟨g1, g2, g3⟩ := ih2 _ _ h1
        exact ⟨tg_tup W.calm g1 g2 fun ds env env' z => by rw [bindPL_ln z, g3], rfl⟩
      · cases h
    · unfold cmpPatL at h
      split at h
      · rename_i m e1
        cases h
        exact ⟨tgs_nil, fun _ z => (nomatch z), rfl⟩
      · rename_i m e es e1
        cases e1
        obtain ⟨q, h1, h2⟩ := opt_bind h
        obtain ⟨r, h3, rfl⟩ := opt_map h2
        obtain ⟨g1, g2⟩ := ih1 _ _ h1
        obtain ⟨g3, g4, g5⟩ := ih2 _ _ h3
        exact ⟨tgs_cons g1 g3 g2, fun y hy => by
          rcases List.mem_cons.mp hy with rfl | hy
          · exact g2
          · exact g4 y hy, by simp only [lenPL, List.length_cons, g5]⟩
      · cases h
end
end Dn
set_option Elab.async false
set_option linter.all false
set_option maxRecDepth 100000
/-! Dn14: the compiler keeps meanings: calls of built-ins, all expressions. -/
namespace Dn
open PySem PySem.Spec PyProof.Rows L2
open RZ (ItzT iZipA pi_zipA)
theorem biC_split {x : Str} {n : Nat} {b : Bi} (h : biC x n = some b) :
    (x = "len" ∧ b = .len) ∨ (x = "abs" ∧ b = .abs) ∨ (x = "tuple" ∧ b = .tuple) ∨ (x = "list" ∧ b = .list) ∨ (x = "repr" ∧ b = .repr) ∨ (x = "int" ∧ b = .int) ∨ (x = "all" ∧ b = .all) ∨ (x = "any" ∧ b = .any) ∨
    (x = "max" ∧ b = .max2) ∨ (x = "min" ∧ b = .min2) ∨ (x = "gcd" ∧ b = .gcd) := by
  unfold biC at h
  repeat' split at h
  all_goals first | (cases h; done) | (cases h; simp [*]; done)
section
variable {X : Cx} {Γ : Ctx} {Φ : Phi} {G : Glo} {e : Expr} {es : List Expr} {ca : CA} {p pos : Pos} {x : Str} {b : Bi}
theorem c_blt (W : Wf X Γ Φ G) {n : Nat} (hx : biC x n = some b) (hg : Gl X x) (ha : PA X (e :: es) (TAs Φ G X.K true ca)) (hst : ∀ y ∈ e :: es, notStar y = true) (m : Bool) : PE X (.Call (.Name x p) (e :: es) [] pos) (T Φ G X.K m (.blt b ca)) := by
  have s1 : starEach (e :: es) X.env = (false, eval e X.env) :: starEach es X.env := star_cons (hst e (List.mem_cons_self ..))
  have s2 : (backTo pos (starEach es X.env)).any (·.1) = false := star_any fun y hy => hst y (List.mem_cons_of_mem _ hy)
  rcases biC_split hx with ⟨rfl, rfl⟩ | ⟨rfl, rfl⟩ | ⟨rfl, rfl⟩ | ⟨rfl, rfl⟩ | ⟨rfl, rfl⟩ | ⟨rfl, rfl⟩ | ⟨rfl, rfl⟩ | ⟨rfl, rfl⟩ | ⟨rfl, rfl⟩ | ⟨rfl, rfl⟩ | ⟨rfl, rfl⟩
  · exact t_blt (r := rLenD X.K) (pe_callB call_len_seq hg (W.frees _ (by decide +kernel)) PySem.boot_len ha (by decide) (by decide) s1 s2) bi_len
  · exact t_blt (r := rAbs1) (pe_callB call_abs hg (W.frees _ (by decide +kernel)) (by decide +kernel) ha (by decide) (by decide) s1 s2) bi_abs
  · exact t_blt (r := rTup1 X.K) (pe_callTy call_tuple_of hg (W.frees _ (by decide +kernel)) (by decide +kernel) ha (by decide) (by decide) s1 s2) bi_tuple
  · exact t_blt (r := rList1 X.K) (pe_callTy call_list_of hg (W.frees _ (by decide +kernel)) (by decide +kernel) ha (by decide) (by decide) s1 s2) bi_list
  · exact t_blt (r := rReprD X.K) (pe_callB (call_reprD W.guards W.units) hg (W.frees _ (by decide +kernel)) (by decide +kernel) ha (by decide) (by decide) s1 s2) bi_repr
  · exact t_blt (r := rInt1) (pe_callTy call_int1 hg (W.frees _ (by decide +kernel)) (by decide +kernel) ha (by decide) (by decide) s1 s2) bi_int
  · exact t_blt (r := rAll X.K) (pe_callB (cr_all W.calm) hg (W.frees _ (by decide +kernel)) (by decide +kernel) ha (by decide) (by decide) s1 s2) bi_all
  · exact t_blt (r := rAny X.K) (pe_callB (cr_any W.calm) hg (W.frees _ (by decide +kernel)) (by decide +kernel) ha (by decide) (by decide) s1 s2) bi_any
  · exact t_blt (r := rMax2) (pe_callB (call_max2 W.calm) hg (W.frees _ (by decide +kernel)) (by decide +kernel) ha (by decide) (by decide) s1 s2) bi_max2
  · exact t_blt (r := rMin2) (pe_callB (call_min2 W.calm) hg (W.frees _ (by decide +kernel)) (by decide +kernel) ha (by decide) (by decide) s1 s2) bi_min2
  · exact t_blt (r := rGcd) (pe_callBfun cr_gcd hg W.gcd ha (by decide) s1 s2) bi_gcd
theorem kind_split {t : Str} {k : Bi} (h : kindC t = some k) : isK k = true ∧ t = Str.ofString (kindName k) := by
  unfold kindC at h
  repeat' split at h
  all_goals first | (cases h; done) | (cases h; exact ⟨rfl, by assumption⟩)
/-- what compiles is kept -/
structure EOk (X : Cx) (Φ : Phi) (G : Glo) (e : Expr) (c : CE) : Prop where
  pe : ∀ m, PE X e (T Φ G X.K m c)
  pt : PT X e (TB Φ G X.K c)
  pw : ∀ op vs q, e = .BoolOp op vs q → PW X e (TB Φ G X.K c)
  st : notStar e = true
structure AOk (X : Cx) (Φ : Phi) (G : Glo) (es : List Expr) (c : CA) : Prop where
  pa : ∀ m, PA X es (TAs Φ G X.K m c)
  st : ∀ e ∈ es, notStar e = true
  ln : c.len = es.length
structure IOk (X : Cx) (Φ : Phi) (G : Glo) (tg e : Expr) (c : CI) : Prop where
  pi : PI X tg e (TIr Φ G X.K c)
  fo : ∀ x, foldedSetIterable e X.env x = pure x
theorem EOk.val {e : Expr} {c : CE} (h : ∀ m, PE X e (T Φ G X.K m c)) (he : ∀ whole, isTrue e X.env whole = (do let v ← whole; standAt e.pos; holding [v] (truthy v))) (hs : notStar e = true) (hb : ∀ op vs q, e ≠ .BoolOp op vs q) : EOk X Φ G e c :=
  ⟨h, tb_val (h true) he, fun op vs q z => absurd z (hb op vs q), hs⟩
theorem opC_split {op : Operator} {o : Bn} (h : opC op = some o) : (op = .Add ∧ o = .add) ∨ (op = .Sub ∧ o = .sub) ∨ (op = .Mult ∧ o = .mul) ∨ (op = .FloorDiv ∧ o = .fdiv) ∨ (op = .Mod ∧ o = .mod) ∨ (op = .Pow ∧ o = .pow) := by
  cases op <;> simp [opC] at h <;> subst h <;> simp
theorem cpC_split {op : CmpOp} {o : Cp} (h : cpC op = some o) : op = cpO o := by
  cases op <;> simp [cpC] at h <;> subst h <;> rfl
theorem c_bin (W : Wf X Γ Φ G) {a b : Expr} {ca cb : CE} {op : Operator} {o : Bn} (h : opC op = some o) (h1 : PE X a (T Φ G X.K true ca)) (h2 : PE X b (T Φ G X.K true cb)) (m : Bool) : PE X (.BinOp a op b pos) (T Φ G X.K m (.bin o ca cb)) := by
  rcases opC_split h with ⟨rfl, rfl⟩ | ⟨rfl, rfl⟩ | ⟨rfl, rfl⟩ | ⟨rfl, rfl⟩ | ⟨rfl, rfl⟩ | ⟨rfl, rfl⟩
  · exact t_add h1 h2
  · exact t_sub h1 h2
  · exact t_mul h1 h2
  · exact t_fdiv W.wx h1 h2
  · exact t_mod h1 h2
  · exact t_pow h1 h2
theorem notSet_fold {env : Env} (h : ∀ a b c, e ≠ .Set a b c) (x : Value) : foldedSetIterable e env x = pure x := by
  cases e <;> first | rfl | exact absurd rfl (h _ _ _)
end
end Dn
set_option Elab.async false
set_option linter.all false
set_option maxRecDepth 100000
/-! Dn15: the compiler keeps meanings: all expressions. -/
namespace Dn
open PySem PySem.Spec PyProof.Rows L2
open RZ (ItzT iZipA pi_zipA)
theorem own_ix {Γ : Ctx} : ∀ (vs : List Nat), ∀ p ∈ ownOf Γ vs, Γ.N[p.2]? = some p.1
  | [], p, h => by simp [ownOf] at h
  | i :: r, p, h => by
    unfold ownOf at h
    rcases List.mem_append.mp h with h | h
    · split at h
      · rename_i x hx
        rw [List.mem_singleton.mp h]
        exact hx
      · cases h
    · exact own_ix r p h
theorem Wf.blkOk {X : Cx} {Γ : Ctx} {Φ : Phi} {G : Glo} (W : Wf X Γ Φ G) {scope : Scope} {vs : List Nat} (h : blkOk' Γ scope vs = true) : BlkOk X.N X.env.scope scope (ownOf Γ vs) ∧ (ownOf Γ vs).map (·.2) = vs := by
  unfold blkOk' at h
  obtain ⟨h1, h2⟩ := Bool.and_eq_true_iff.mp h
  have b := blkOk_by h1
  refine ⟨⟨b.kind, b.uniq, by rw [W.N]; exact b.ix, fun y hy e => ?_, by rw [W.N]; exact b.own⟩, of_decide_eq_true h2⟩
  rcases b.free y hy e with q | q
  · exact .inl (W.cel0 _ q)
  · exact W.fre0 _ q

section
variable {X : Cx} {Φ : Phi} {G : Glo} {e a b : Expr} {es : List Expr} {c ca cb cc' : CE} {pos p : Pos} {m : Bool} {x : Str}
theorem tb_ite {t : Expr} (hc : PT X t (TB Φ G X.K cc')) (h1 : PT X a (TB Φ G X.K ca)) (h2 : PT X b (TB Φ G X.K cb)) : PT X (.IfExp t a b pos) (TB Φ G X.K (.ite cc' ca cb)) := by
  refine ⟨fun pins s σ H Q I h => ?_⟩
  obtain ⟨en, S, cc, env, k, d, k', R, hq, q⟩ := h
  show wpAny _ _ (do if ← isTrue t X.env (eval t X.env) then isTrue a X.env (eval a X.env) else isTrue b X.env (eval b X.env)) _ _ _
  simp only [den, Option.bind_eq_some_iff] at hq
  obtain ⟨⟨d1, k1⟩, e1, e2⟩ := hq
  have hb : ∃ v, d1 = .bool v := by
    revert e2
    cases d1 <;> first | (intro; exact ⟨_, rfl⟩) | (intro z; cases z)
  obtain ⟨v, rfl⟩ := hb
  have hr := hc.run pins s σ H (fun b H1 => b = v ∧ SameX cc H H1 ∧ CkOk cc k1 H1) I ⟨en, S, cc, env, k, v, k1, R, e1, fun H1 s1 c1 => ⟨rfl, s1, c1⟩⟩
  refine wpAny_bind (thn hr fun b s1 hx => ?_)
  obtain ⟨H1, I1, hb, s2, c2⟩ := hx
  subst hb
  have R1 := R.grow s2 c2
  cases b with
  | true => exact h1.run pins s1 σ H1 Q I1 ⟨en, S, cc, env, k1, d, k', R1, e2, fun H' s3 c3 => q H' (s2.trans s3) c3⟩
  | false => exact h2.run pins s1 σ H1 Q I1 ⟨en, S, cc, env, k1, d, k', R1, e2, fun H' s3 c3 => q H' (s2.trans s3) c3⟩
theorem plain_ix {b : Expr} (h : ∀ x y z p, b ≠ .Slice x y z p) : PlainIx b := by
  intro o i
  cases b <;> first | rfl | exact absurd rfl (h _ _ _ _)
theorem t_call0 {id : Nat} (C : CallOk X Φ id x) (hg : Gl X x) (hdb : (x == ("__debug__" : Str)) = false) : PE X (.Call (.Name x p) [] [] pos) (T Φ G X.K m (.call id .nil)) := by
  obtain ⟨⟨k, f, fd, ps, F, hr, hm, hk, hb, hlen⟩, gd⟩ := C
  refine pe_imp (pe_callG0 (p := p) (pos := pos) F gd hr hg hm hk hb hdb) fun σ H Q h => ?_
  obtain ⟨en, S, cc, env, k, d, k', R, hq, q⟩ := h
  simp only [den, denA, Option.bind_some] at hq
  refine ⟨S, cc, [], k, d, k', ?_, R.trk, fun c z => ⟨R.ckS c z, R.ckk c z⟩, .nil, hq, fun v H' s2 c2 v2 => q v H' s2 c2 (.of v2 rfl)⟩
  have q1 := hlen _ _ _ hq
  simpa using q1
theorem minus_split {s : Expr} (h : isMinus1 s = true) : ∃ k0 p1 p2, s = .UnaryOp .USub (.Constant (.int 1) k0 p1) p2 := by
  unfold isMinus1 at h
  split at h
  · exact ⟨_, _, _, rfl⟩
  · cases h
theorem cask_local {y : Str} {py : Pos} {Γ : Ctx} {s : Nat} (W : Wf X Γ Φ G) (h : Γ.loc y = some s) : PE X (.Name y py) (tVar s) := by
  obtain ⟨v1, v2, v3, v4⟩ := W.vis h
  exact pe_var v1 v2 v3 v4
end
section
variable {X : Cx} {Γ : Ctx} {Φ : Phi} {G : Glo} {e a b : Expr} {es : List Expr} {c ca cb ci : CE} {pos p px : Pos} {m : Bool} {x : Str} {s j : Nat}
theorem ck_at {k : KS} {j : Nat} {v : Int} (h : ckAt k j = some v) : (encK k)[j]? = some (.int v) ∧ j < 3 := by
  match j, h with
  | 0, h => cases h; exact ⟨rfl, by omega⟩
  | 1, h => cases h; exact ⟨rfl, by omega⟩
  | 2, h => cases h; exact ⟨rfl, by omega⟩
theorem ck_ix {k : KS} {j : Nat} {v : Int} (h : ckAt k j = some v) : atI (encK k) (j : Nat) = some (.int v) := by
  obtain ⟨h1, h2⟩ := ck_at h
  unfold atI ixN
  have e : (encK k).length = 3 := rfl
  rw [e, if_pos (by omega), if_pos (by omega)]
  exact h1
theorem t_ck {q : Nat} {pp : Pos} (hv : PE X (.Name x px) (tVar s)) : PE X (.Subscript (.Name x px) (.Constant (.int (j : Nat)) q pp) pos) (T Φ G X.K m (.ck s j)) := by
  refine pe_imp (pe_ix ix_seq hv pe_int (plain_ix fun _ _ _ _ => nofun)) fun σ H Q h => ?_
  obtain ⟨en, S, cc, env, k, d, k', R, hq, q⟩ := h
  simp only [den] at hq
  split at hq
  case h_2 => cases hq
  case h_1 hs =>
  simp only [Option.map_eq_some_iff, Prod.mk.injEq] at hq
  obtain ⟨v, h1, rfl, rfl⟩ := hq
  obtain ⟨cc0, z1, z2⟩ := R.slots s _ hs
  exact ⟨.ref cc0, z1, .inl ⟨cc0, encK k, (j : Nat), .int v, rfl, rfl, SqL.of (R.ckk cc0 z2), ck_ix h1, q _ H (SameX.refl _ _) R.ckk (.of (.int v) rfl)⟩⟩
theorem scr_ix {ns : List Int} {i v : Int} (h : scrAt ns i = some v) : atI (ns.map V.int) i = some (.int v) := by
  unfold scrAt at h
  split at h
  case isFalse => cases h
  case isTrue h0 =>
  split at h
  case isFalse => cases h
  case isTrue h1 =>
  unfold atI ixN
  rw [List.length_map, if_pos h0, if_pos h1]
  show (ns.map V.int)[i.toNat]? = _
  rw [List.getElem?_map, h]
  rfl
theorem t_sg (hv : PE X (.Name x px) (tVar s)) (hi : PE X a (T Φ G X.K true ci)) (hp : PlainIx a) : PE X (.Subscript (.Name x px) a pos) (T Φ G X.K m (.sg s ci)) := by
  refine pe_imp (pe_ix ix_seq hv hi hp) fun σ H Q h => ?_
  obtain ⟨en, S, cc, env, k, d, k', R, hq, q⟩ := h
  simp only [den] at hq
  split at hq
  case h_2 => cases hq
  case h_1 ns hs =>
  simp only [Option.bind_eq_some_iff] at hq
  obtain ⟨⟨d1, k1⟩, e1, e2⟩ := hq
  split at e2
  case h_2 => cases e2
  case h_1 i hi =>
  simp only at hi
  subst hi
  simp only [Option.map_eq_some_iff, Prod.mk.injEq] at e2
  obtain ⟨v, h1, rfl, rfl⟩ := e2
  obtain ⟨a0, z1, z2, z3⟩ := R.slots s _ hs
  refine ⟨.ref a0, z1, en, S, cc, env, k, .int i, k1, R, e1, fun y H1 s1 c1 v1 => ?_⟩
  have R1 := R.grow s1 c1
  obtain ⟨a1, y1, y2, y3⟩ := R1.slots s _ hs
  rw [z1] at y1
  cases y1
  exact .inl ⟨a0, ns.map V.int, i, .int v, rfl, VOk.rd v1 |>.int, y2, scr_ix h1, q _ H1 s1 c1 (.of (.int v) rfl)⟩
theorem t_sl (hg : Gl X "len") (hm : X.mg "len" = none) (hv : PE X (.Name x px) (tVar s)) : PE X (.Call (.Name "len" p) [.Name x px] [] pos) (T Φ G X.K m (.sl s)) := by
  refine pe_imp (pe_callB call_len_seq hg hm PySem.boot_len (pa_cons hv pa_nil (star_cons rfl)) (by decide) (by decide) (star_cons rfl) rfl) fun σ H Q h => ?_
  obtain ⟨en, S, cc, env, k, d, k', R, hq, q⟩ := h
  simp only [den] at hq
  split at hq
  case h_2 => cases hq
  case h_1 ns hs =>
  simp only [Option.some.injEq, Prod.mk.injEq] at hq
  obtain ⟨rfl, rfl⟩ := hq
  obtain ⟨a0, z1, z2, z3⟩ := R.slots s _ hs
  refine ⟨.ref a0, z1, a0, ns.map V.int, rfl, .inl z2, ?_⟩
  rw [List.length_map]
  exact q _ H (SameX.refl _ _) R.ckk (.of (.int _) rfl)
theorem da_ints {K : PySem.W.Frag} {H : Hp} : ∀ ns : List Int, DqAll K H (ns.map V.int) (ns.map PyData.int)
  | [] => .nil
  | i :: r => .cons (.int i) (da_ints r)
theorem ti_ss {tg : Expr} {p2 : Pos} (hv : PE X (.Name x px) (tVar s)) (hi : PE X a (T Φ G X.K true ci)) : PI X tg (.Subscript (.Name x px) (.Slice none (some a) none p2) pos) (TIr Φ G X.K (.ss s ci)) := by
  refine pi_imp (pi_seqA (pe_slice sl_list hv po_none (po_some hi))) fun σ H R h => ?_
  obtain ⟨en, S, cc, env, k, xs, k', R0, hq, q⟩ := h
  simp only [denI] at hq
  split at hq
  case h_2 => cases hq
  case h_1 ns hs =>
  simp only [Option.bind_eq_some_iff] at hq
  obtain ⟨⟨d1, k1⟩, e1, e2⟩ := hq
  split at e2
  case h_2 => cases e2
  case h_1 i hi =>
  simp only at hi
  subst hi
  simp only [Option.some.injEq, Prod.mk.injEq] at e2
  obtain ⟨rfl, rfl⟩ := e2
  obtain ⟨a0, z1, z2, z3⟩ := R0.slots s _ hs
  refine ⟨.ref a0, z1, en, S, cc, env, k, .int i, k1, R0, e1, fun y H1 s1 c1 v1 => ?_⟩
  have R1 := R0.grow s1 c1
  obtain ⟨a1, y1, y2, y3⟩ := R1.slots s _ hs
  rw [z1] at y1
  cases y1
  have hy : y = .int i := VOk.rd v1 |>.int
  refine ⟨i, hy, a0, ns.map V.int, rfl, y2, fun p0 hp => ?_⟩
  have ec : cutV (ns.map V.int) none (some i) = (ns.take (sIxD ns.length i)).map V.int := by
    unfold cutV
    rw [sIx_eq, HT.sIx_none, List.drop_zero, Nat.sub_zero, List.length_map, List.map_take]
  rw [ec]
  obtain ⟨a1, a2, a3, a4, a5⟩ := R1.alloc (o := .lst ((ns.take (sIxD ns.length i)).map V.int)) hp
  exact ⟨p0, _, rfl, .inl ⟨SqL.of upd_same, q _ _ (s1.trans a1) a2 (it_list a5 (da_ints _))⟩⟩
theorem caskRead_split {a b : Expr} {c : CE} (h : caskRead Γ a b = some c) : ∃ x px j q pp s, a = .Name x px ∧ b = .Constant (.int (j : Nat)) q pp ∧ Γ.loc x = some s ∧ c = .ck s j := by
  unfold caskRead at h
  split at h
  · rename_i x px j q pp
    split at h
    · rename_i hc
      simp only [Bool.and_eq_true, decide_eq_true_eq] at hc
      obtain ⟨s, h1, rfl⟩ := opt_map h
      exact ⟨x, px, j.toNat, q, pp, s, rfl, by rw [Int.toNat_of_nonneg hc.1.2], h1, rfl⟩
    · cases h
  · cases h
theorem scrRead_split {a : Expr} {s : Nat} (h : scrRead Γ a = some s) : ∃ x px, a = .Name x px ∧ Γ.loc x = some s := by
  unfold scrRead at h
  split at h
  · split at h
    · exact ⟨_, _, rfl, h⟩
    · cases h
  · cases h
theorem scrSlice_split {e hi : Expr} {s : Nat} (h : scrSlice Γ e = some (s, hi)) : ∃ x px p2 pos, e = .Subscript (.Name x px) (.Slice none (some hi) none p2) pos ∧ Γ.loc x = some s := by
  unfold scrSlice at h
  split at h
  · obtain ⟨s', h1, h2⟩ := opt_map h
    cases h2
    obtain ⟨x, px, rfl, hl⟩ := scrRead_split h1
    exact ⟨x, px, _, _, rfl, hl⟩
  · cases h
end
theorem cons_st {e : Expr} {es : List Expr} (h1 : notStar e = true) (h2 : ∀ y ∈ es, notStar y = true) : ∀ y ∈ e :: es, notStar y = true := fun y hy => by
  rcases List.mem_cons.mp hy with rfl | hy
  · exact h1
  · exact h2 y hy
set_option maxHeartbeats 4000000 in
theorem cmp_ok {Φ : Phi} {G : Glo} : ∀ (n : Nat) (X : Cx) (Γ : Ctx), Wf X Γ Φ G →
    (∀ e c, cmpE Γ n e = some c → EOk X Φ G e c) ∧ (∀ es c, cmpA Γ n es = some c → AOk X Φ G es c) ∧ (∀ tg e c, cmpI Γ n tg e = some c → IOk X Φ G tg e c)
  | 0, X, Γ, W => ⟨fun e c h => by simp [cmpE] at h, fun es c h => by simp [cmpA] at h, fun tg e c h => by simp [cmpI] at h⟩
  | n + 1, X, Γ, W => by
    have ih := cmp_ok (Φ := Φ) (G := G) n
    obtain ⟨ihE, ihA, ihI⟩ := ih X Γ W
    refine ⟨fun e c h => ?_, fun es c h => ?_, fun tg e c h => ?_⟩
    · unfold cmpE at h
      split at h
      case h_30 => cases h
      all_goals (rename_i e1; cases e1)
      case h_2 m x pos =>
        split at h
        · rename_i i hi
          cases h
          obtain ⟨v1, v2, v3, v4⟩ := W.vis hi
          exact .val (fun m => t_var v1 v2 v3 v4) (fun _ => rfl) rfl (fun _ _ _ => nofun)
        · split at h
          · rename_i hg
            obtain ⟨g, h1, rfl⟩ := opt_map h
            obtain ⟨g1, g2⟩ := W.gl hg
            obtain ⟨v, u, d, d1, d2, d3, d4⟩ := W.glos x g h1
            exact .val (fun m => t_glo g1 d2 d3 g2 d1 d4 (by cases d <;> rfl)) (fun _ => rfl) rfl (fun _ _ _ => nofun)
          · cases h
      case h_3 => cases h; exact .val (fun m => t_int) (fun _ => rfl) rfl (fun _ _ _ => nofun)
      case h_4 => cases h; exact .val (fun m => t_bl) (fun _ => rfl) rfl (fun _ _ _ => nofun)
      case h_5 => cases h; exact .val (fun m => t_non) (fun _ => rfl) rfl (fun _ _ _ => nofun)
      case h_6 => cases h; exact .val (fun m => t_str) (fun _ => rfl) rfl (fun _ _ _ => nofun)
      case h_7 =>
        split at h
        · rename_i hl
          obtain ⟨a, h1, rfl⟩ := opt_map h
          have A := ihA _ _ h1
          exact .val (fun m => t_tup (A.pa false) (by rw [A.ln]; omega)) (fun _ => rfl) rfl (fun _ _ _ => nofun)
        · cases h
      case h_8 =>
        split at h
        · rename_i hl
          obtain ⟨a, h1, rfl⟩ := opt_map h
          have A := ihA _ _ h1
          exact .val (fun m => t_lst (A.pa false) (by rw [A.ln]; omega)) (fun _ => rfl) rfl (fun _ _ _ => nofun)
        · cases h
      case h_9 =>
        obtain ⟨o, h1, h2⟩ := opt_bind h
        obtain ⟨ca, h3, h4⟩ := opt_bind h2
        obtain ⟨cb, h5, rfl⟩ := opt_map h4
        exact .val (c_bin W h1 ((ihE _ _ h3).pe true) ((ihE _ _ h5).pe true)) (fun _ => rfl) rfl (fun _ _ _ => nofun)
      case h_10 =>
        obtain ⟨ca, h3, rfl⟩ := opt_map h
        exact .val (fun m => t_neg ((ihE _ _ h3).pe true)) (fun _ => rfl) rfl (fun _ _ _ => nofun)
      case h_11 =>
        obtain ⟨ca, h3, rfl⟩ := opt_map h
        exact ⟨fun m => t_not ((ihE _ _ h3).pe true), tb_not (ihE _ _ h3).pt, fun _ _ _ => nofun, rfl⟩
      case h_12 op a pos =>
        have E := ihE _ _ h
        have pw : PW X (.BoolOp op [a] pos) (TB Φ G X.K c) := by cases op; exact pw_and1 E.pt; exact pw_or1 E.pt
        exact ⟨fun m => pe_one (E.pe m), pw.pt, fun op2 vs q z => by cases z; exact pw, rfl⟩
      case h_13 a b r p =>
        obtain ⟨ca, h3, h4⟩ := opt_bind h
        obtain ⟨cb, h5, rfl⟩ := opt_map h4
        have E1 := ihE _ _ h3
        have E2 := ihE _ _ h5
        have pw := tw_and E1.pt (E2.pw _ _ _ rfl)
        exact ⟨fun m => t_and (E1.pe true) (E2.pe true), pw.pt, fun op2 vs q z => by cases z; exact pw, rfl⟩
      case h_14 a b r p =>
        obtain ⟨ca, h3, h4⟩ := opt_bind h
        obtain ⟨cb, h5, rfl⟩ := opt_map h4
        have E1 := ihE _ _ h3
        have E2 := ihE _ _ h5
        have pw := tw_or E1.pt (E2.pw _ _ _ rfl)
        exact ⟨fun m => t_or (E1.pe true) (E2.pe true), pw.pt, fun op2 vs q z => by cases z; exact pw, rfl⟩
      case h_15 =>
        obtain ⟨ca, h3, rfl⟩ := opt_map h
        exact ⟨fun m => t_isN ((ihE _ _ h3).pe true), tb_isN ((ihE _ _ h3).pe true), fun _ _ _ => nofun, rfl⟩
      case h_16 =>
        obtain ⟨ca, h3, rfl⟩ := opt_map h
        exact ⟨fun m => t_notN ((ihE _ _ h3).pe true), tb_notN ((ihE _ _ h3).pe true), fun _ _ _ => nofun, rfl⟩
      case h_17 =>
        obtain ⟨ca, h3, rfl⟩ := opt_map h
        exact ⟨fun m => t_isB ((ihE _ _ h3).pe true), tb_isB ((ihE _ _ h3).pe true), fun _ _ _ => nofun, rfl⟩
      case h_18 =>
        obtain ⟨ca, h3, rfl⟩ := opt_map h
        exact ⟨fun m => t_notB ((ihE _ _ h3).pe true), tb_notB ((ihE _ _ h3).pe true), fun _ _ _ => nofun, rfl⟩
      case h_19 =>
        obtain ⟨o, h1, h2⟩ := opt_bind h
        obtain ⟨ca, h3, h4⟩ := opt_bind h2
        obtain ⟨cb, h5, rfl⟩ := opt_map h4
        obtain rfl := cpC_split h1
        exact ⟨fun m => t_cmp W.units ((ihE _ _ h3).pe true) ((ihE _ _ h5).pe true), tb_cmp W.units ((ihE _ _ h3).pe true) ((ihE _ _ h5).pe true), fun _ _ _ => nofun, rfl⟩
      case h_20 =>
        obtain ⟨cc, h1, h2⟩ := opt_bind h
        obtain ⟨ca, h3, h4⟩ := opt_bind h2
        obtain ⟨cb, h5, rfl⟩ := opt_map h4
        exact ⟨fun m => t_ite (ihE _ _ h1).pt ((ihE _ _ h3).pe m) ((ihE _ _ h5).pe m), tb_ite (ihE _ _ h1).pt (ihE _ _ h3).pt (ihE _ _ h5).pt, fun _ _ _ => nofun, rfl⟩
      case h_21 =>
        split at h
        · rename_i hs
          obtain ⟨k0, p1, p2, rfl⟩ := minus_split hs
          obtain ⟨ca, h3, rfl⟩ := opt_map h
          exact .val (fun m => t_rev ((ihE _ _ h3).pe true)) (fun _ => rfl) rfl (fun _ _ _ => nofun)
        · cases h
      case h_22 =>
        obtain ⟨ca, h3, h4⟩ := opt_bind h
        obtain ⟨cb, h5, rfl⟩ := opt_map h4
        exact .val (fun m => t_slL ((ihE _ _ h3).pe true) ((ihE _ _ h5).pe true)) (fun _ => rfl) rfl (fun _ _ _ => nofun)
      case h_23 =>
        obtain ⟨ca, h3, h4⟩ := opt_bind h
        obtain ⟨cb, h5, rfl⟩ := opt_map h4
        exact .val (fun m => t_slH ((ihE _ _ h3).pe true) ((ihE _ _ h5).pe true)) (fun _ => rfl) rfl (fun _ _ _ => nofun)
      case h_24 => cases h
      case h_25 =>
        rename_i hns
        split at h
        · rename_i c0 hck
          cases h
          obtain ⟨x, px, j, q, pp, s, rfl, rfl, hl, rfl⟩ := caskRead_split hck
          exact .val (fun m => t_ck (cask_local W hl)) (fun _ => rfl) rfl (fun _ _ _ => nofun)
        split at h
        · rename_i s hsr
          obtain ⟨x, px, rfl, hl⟩ := scrRead_split hsr
          obtain ⟨cb, h5, rfl⟩ := opt_map h
          exact .val (fun m => t_sg (cask_local W hl) ((ihE _ _ h5).pe true) (plain_ix fun x y z p q => hns _ _ _ _ q)) (fun _ => rfl) rfl (fun _ _ _ => nofun)
        obtain ⟨ca, h3, h4⟩ := opt_bind h
        obtain ⟨cb, h5, rfl⟩ := opt_map h4
        exact .val (fun m => t_idx (plain_ix fun x y z p q => hns _ _ _ _ q) ((ihE _ _ h3).pe true) ((ihE _ _ h5).pe true)) (fun _ => rfl) rfl (fun _ _ _ => nofun)
      case h_26 m0 f pf x px es pos =>
        split at h
        · cases h
        rename_i hgl
        have hg : Γ.glb f = true := by simpa using hgl
        obtain ⟨g1, g2⟩ := W.gl hg
        split at h
        · rename_i id hid
          split at h
          · obtain ⟨s, h1, h2⟩ := opt_bind h
            obtain ⟨ca, h3, rfl⟩ := opt_map h2
            have A := ihA _ _ h3
            exact .val (fun m => t_callC (W.calls _ _ hid) g1 g2 (cask_local W h1) (A.pa false) A.st) (fun _ => rfl) rfl (fun _ _ _ => nofun)
          · split at h
            · obtain ⟨ca, h3, rfl⟩ := opt_map h
              have A := ihA _ _ h3
              exact .val (fun m => t_call (W.calls _ _ hid) g1 g2 (A.pa false) A.st) (fun _ => rfl) rfl (fun _ _ _ => nofun)
            · cases h
        · split at h
          · rename_i hf
            split at h
            · rename_i e0 t p2 
              obtain ⟨kd, h1, h2⟩ := opt_bind h
              split at h2
              · rename_i hgt
                obtain ⟨ca, h3, rfl⟩ := opt_map h2
                obtain ⟨k1, rfl⟩ := kind_split h1
                exact .val (fun m => t_isi k1 g1 hf (by subst hf; exact W.frees _ (by decide +kernel)) (W.gl hgt).1 rfl (W.frees _ (by revert k1; cases kd <;> decide +kernel)) ((ihE _ _ h3).pe true) rfl) (fun _ => rfl) rfl (fun _ _ _ => nofun)
              · cases h2
            · cases h
          split at h
          · rename_i hcs
            simp only [Bool.and_eq_true, decide_eq_true_eq] at hcs
            obtain ⟨⟨rfl, rfl⟩, hes⟩ := hcs
            obtain rfl : es = [] := List.isEmpty_iff.mp hes
            obtain ⟨s, h1, rfl⟩ := opt_map h
            exact .val (fun m => t_sl g1 (W.frees _ (by decide +kernel)) (cask_local W h1)) (fun _ => rfl) rfl (fun _ _ _ => nofun)
          · obtain ⟨b, h1, h2⟩ := opt_bind h
            obtain ⟨ca, h3, rfl⟩ := opt_map h2
            have A := ihA _ _ h3
            exact .val (fun m => c_blt W h1 g1 (A.pa true) A.st m) (fun _ => rfl) rfl (fun _ _ _ => nofun)
      case h_27 m0 f pf es pos hne =>
        split at h
        · cases h
        rename_i hgl
        have hg : Γ.glb f = true := by simpa using hgl
        obtain ⟨g1, g2⟩ := W.gl hg
        split at h
        · rename_i id hid
          split at h
          · obtain ⟨ca, h3, rfl⟩ := opt_map h
            have A := ihA _ _ h3
            cases es with
            | nil =>
              have hn : ca = .nil := by
                have := A.ln
                cases ca with
                | nil => rfl
                | cons _ _ => simp [CA.len] at this
              subst hn
              exact .val (fun m => t_call0 (W.calls _ _ hid) g1 g2) (fun _ => rfl) rfl (fun _ _ _ => nofun)
            | cons e es => exact .val (fun m => t_call (W.calls _ _ hid) g1 g2 (A.pa false) A.st) (fun _ => rfl) rfl (fun _ _ _ => nofun)
          · cases h
        · split at h
          · cases h
          · rename_i hem
            obtain ⟨b, h1, h2⟩ := opt_bind h
            obtain ⟨ca, h3, rfl⟩ := opt_map h2
            have A := ihA _ _ h3
            cases es with
            | nil => simp at hem
            | cons e es => exact .val (fun m => c_blt W h1 g1 (A.pa true) A.st m) (fun _ => rfl) rfl (fun _ _ _ => nofun)
      case h_28 =>
        split at h
        · rename_i hc
          obtain ⟨hm, hl⟩ := Bool.and_eq_true_iff.mp hc
          obtain rfl := of_decide_eq_true hm
          obtain ⟨ca, h3, rfl⟩ := opt_map h
          exact .val (fun m => t_bits ((ihE _ _ h3).pe true) hl) (fun _ => rfl) rfl (fun _ _ _ => nofun)
        · cases h
      case h_29 m0 elt tg iter ifs scope pos =>
        obtain ⟨it, h1, h2⟩ := opt_bind h
        obtain ⟨p, h3, h4⟩ := opt_bind h2
        obtain ⟨ce, h5, h6⟩ := opt_bind h4
        obtain ⟨cc, h7, h8⟩ := opt_bind h6
        split at h8
        · rename_i hb
          cases h8
          obtain ⟨b1, b2⟩ := W.blkOk hb
          have I := ihI _ _ _ h1
          refine .val (fun m => ?_) (fun _ => rfl) rfl (fun _ _ _ => nofun)
          refine pe_imp (pe_lc W.calm W.nd I.pi b1 (fun s H C cl fp => (pat_ok (W.blk s H scope C cl fp) n).1 _ _ h3 |>.1) (g := TGp X.K p) (tt := TB Φ G X.K cc) (te := T Φ G X.K false ce) (fun s H C cl fp => ?_) (fun s H C cl fp => ((ih _ _ (W.blk s H scope C cl fp)).1 _ _ h5).pe false) I.fo) fun σ H Q q => ?_
          · split at h7
            · cases h7
              exact tb_yes
            · exact pts_one ((ih _ _ (W.blk s H scope C cl fp)).1 _ _ h7).pt
            · cases h7
          · rw [b2]
            exact comp_read q
        · cases h8
    · unfold cmpA at h
      split at h
      all_goals (rename_i e1; cases e1)
      · cases h
        exact ⟨fun m => ta_nil, fun _ z => (nomatch z), rfl⟩
      · obtain ⟨c1, h1, h2⟩ := opt_bind h
        obtain ⟨r, h3, rfl⟩ := opt_map h2
        have E := ihE _ _ h1
        have A := ihA _ _ h3
        exact ⟨fun m => ta_cons (E.pe m) (A.pa m) (star_cons E.st), fun y hy => by
          rcases List.mem_cons.mp hy with rfl | hy
          · exact E.st
          · exact A.st y hy, by simp only [CA.len, List.length_cons, A.ln]⟩
    · unfold cmpI at h
      split at h
      case h_1 => cases h
      case h_5 m0 e1 _ _ hns =>
        cases e1
        split at h
        · rename_i s hi hss
          obtain ⟨x, px, p2, pos, rfl, hl⟩ := scrSlice_split hss
          obtain ⟨ca, h3, rfl⟩ := opt_map h
          exact ⟨ti_ss (cask_local W hl) ((ihE _ _ h3).pe true), fun x => notSet_fold (fun a b c q => hns a b c q) x⟩
        obtain ⟨ca, h3, rfl⟩ := opt_map h
        exact ⟨ti_seq ((ihE _ _ h3).pe false), fun x => notSet_fold (fun a b c q => hns a b c q) x⟩
      all_goals (rename_i e1; cases e1)
      case h_2 m0 f p a pos =>
        split at h
        · obtain ⟨ca, h3, rfl⟩ := opt_map h
          exact ⟨ti_seq ((ihE _ _ h3).pe false), fun _ => rfl⟩
        rename_i hgl
        have hg : Γ.glb f = true := by
          cases q : Γ.glb f with
          | true => rfl
          | false => simp [q] at hgl
        obtain ⟨g1, g2⟩ := W.gl hg
        split at h
        · rename_i hf
          subst hf
          obtain ⟨ca, h3, rfl⟩ := opt_map h
          exact ⟨ti_rng g1 (W.frees _ (by decide +kernel)) (ihE _ _ h3).st ((ihE _ _ h3).pe true), fun _ => rfl⟩
        split at h
        · rename_i hf
          subst hf
          split at h
          · obtain ⟨ca, h3, rfl⟩ := opt_map h
            exact ⟨ti_enum g1 (W.frees _ (by decide +kernel)) (ihE _ _ h3).st ((ihE _ _ h3).pe false), fun _ => rfl⟩
          · cases h
        split at h
        · rename_i hf
          subst hf
          split at h
          · split at h
            · rename_i hh
              obtain ⟨ca, h3, rfl⟩ := opt_map h
              simp only [Bool.and_eq_true, decide_eq_true_eq] at hh
              obtain ⟨⟨hr, hg2⟩, hn⟩ := hh
              subst hr
              exact ⟨ti_revr g1 (W.frees _ (by decide +kernel)) (W.gl hg2).1 (W.frees _ (by decide +kernel)) (ihE _ _ h3).st ((ihE _ _ h3).pe true), fun _ => rfl⟩
            · cases h
          · obtain ⟨ca, h3, rfl⟩ := opt_map h
            exact ⟨ti_revs g1 (W.frees _ (by decide +kernel)) (ihE _ _ h3).st ((ihE _ _ h3).pe false), fun _ => rfl⟩
        obtain ⟨ca, h3, rfl⟩ := opt_map h
        exact ⟨ti_seq ((ihE _ _ h3).pe false), fun _ => rfl⟩
      case h_3 m0 f p a b pos =>
        split at h
        · obtain ⟨ca, h3, rfl⟩ := opt_map h
          exact ⟨ti_seq ((ihE _ _ h3).pe false), fun _ => rfl⟩
        rename_i hgl
        have hg : Γ.glb f = true := by
          cases q : Γ.glb f with
          | true => rfl
          | false => simp [q] at hgl
        obtain ⟨g1, g2⟩ := W.gl hg
        split at h
        · rename_i hf
          subst hf
          obtain ⟨ca, h3, h4⟩ := opt_bind h
          obtain ⟨cb, h5, rfl⟩ := opt_map h4
          exact ⟨ti_rng2 g1 (W.frees _ (by decide +kernel)) (ihE _ _ h3).st (ihE _ _ h5).st ((ihE _ _ h3).pe true) ((ihE _ _ h5).pe true), fun _ => rfl⟩
        split at h
        · rename_i hf
          subst hf
          split at h
          · obtain ⟨ca, h3, h4⟩ := opt_bind h
            obtain ⟨cb, h5, rfl⟩ := opt_map h4
            exact ⟨ti_zip g1 (W.frees _ (by decide +kernel)) (ihE _ _ h3).st (ihE _ _ h5).st ((ihE _ _ h3).pe false) ((ihE _ _ h5).pe false), fun _ => rfl⟩
          · cases h
        obtain ⟨ca, h3, rfl⟩ := opt_map h
        exact ⟨ti_seq ((ihE _ _ h3).pe false), fun _ => rfl⟩
      case h_4 => cases h
end Dn
set_option Elab.async false
set_option linter.all false
set_option maxRecDepth 100000
/-! Dn16: statements: the state's changes. -/
namespace Dn
open PySem PySem.Spec PyProof.Rows L2
section
variable {K : PySem.W.Frag} {en : En} {S : List Addr} {cc : Option Addr} {env env' : DEnv} {k k' : KS} {σ : St} {H H' : Hp}
theorem modify_eq (l : List Sl) (i : Nat) (f : Sl → Sl) : l.modify i f = match l[i]? with | some s => l.set i (f s) | none => l := by
  apply List.ext_getElem?
  intro j
  rw [List.getElem?_modify]
  cases h : l[i]? with
  | none =>
    show _ = l[j]?
    by_cases e : i = j
    · subst e; simp [h]
    · simp [e]
  | some s =>
    show _ = (l.set i (f s))[j]?
    have hi : i < l.length := by
      rcases Nat.lt_or_ge i l.length with q | q
      · exact q
      · rw [List.getElem?_eq_none q] at h; cases h
    by_cases e : i = j
    · subst e; rw [List.getElem?_set_self hi]; simp [h]
    · rw [List.getElem?_set_ne e]; simp [e]
theorem get_lt {α : Type} {l : List α} {i : Nat} {s : α} (h : l[i]? = some s) : i < l.length := by
  rcases Nat.lt_or_ge i l.length with q | q
  · exact q
  · rw [List.getElem?_eq_none q] at h; cases h
theorem set_same {α : Type} {l : List α} {i : Nat} {s : α} (h : l[i]? = some s) : l.set i s = l := by
  apply List.ext_getElem?
  intro j
  by_cases e : i = j
  · subst e; rw [List.getElem?_set_self (get_lt h), h]
  · rw [List.getElem?_set_ne e]
theorem SR.freeze1 (R : SR K en S cc env k σ H) (i : Nat) : ∃ S', SR K en S' cc (env.modify i Dn.freeze1) k σ H ∧ Same (hide S H) (hide S' H) := by
  rw [modify_eq]
  cases h : env[i]? with
  | none => exact ⟨S, R, fun _ _ z => z⟩
  | some s =>
    show ∃ S', SR K en S' cc (env.set i (Dn.freeze1 s)) k σ H ∧ _
    have triv : Dn.freeze1 s = s → ∃ S', SR K en S' cc (env.set i (Dn.freeze1 s)) k σ H ∧ Same (hide S H) (hide S' H) := fun e => by
      rw [e, set_same h]
      exact ⟨S, R, fun _ _ z => z⟩
    cases s with
    | un => exact triv rfl
    | csk => exact triv rfl
    | scr ns => exact triv rfl
    | dat o d =>
      cases o with
      | false => exact triv rfl
      | true =>
        obtain ⟨a, xs, ds, h1, rfl, h3, h4, h5, h6, h7⟩ := R.slots i _ h
        have sub : ∀ x, x ∈ S.filter (fun b => decide (b ≠ a)) → x ∈ S := fun x z => (List.mem_filter.mp z).1
        have hs : Same (hide S H) (hide (S.filter fun b => decide (b ≠ a)) H) := hide_sub sub
        have mem : ∀ x, x ∈ S → x ≠ a → x ∈ S.filter (fun b => decide (b ≠ a)) := fun x z y => List.mem_filter.mpr ⟨z, by simpa using y⟩
        have hi := get_lt h
        refine ⟨S.filter fun b => decide (b ≠ a), ⟨R.same, fun x z => mem x (R.sub x z) fun y => R.s0 x z (by rw [y]; exact h6), R.s0, fun x z => R.trk x (sub x z), fun c z => ?_, R.ec, by rw [List.length_set]; exact R.len, fun j t e => ?_, fun j l b d e e1 e2 e3 e4 => ?_⟩, hs⟩
        · obtain ⟨y1, y2, y3⟩ := R.ck c z
          exact ⟨mem c y1 fun y => h7 (by rw [z, y]), y2, y3⟩
        · by_cases hj : i = j
          · subst hj
            rw [List.getElem?_set_self hi] at e
            cases e
            refine ⟨.ref a, h1, .lst ?_ (dqAll_mono hs _ _ h5)⟩
            rw [hide_at (fun z => by have := (List.mem_filter.mp z).2; simp at this)]
            exact h4
          · rw [List.getElem?_set_ne hj] at e
            have so := R.slots j t e
            cases t with
            | un => trivial
            | csk => exact so
            | scr ns => exact so
            | dat o d =>
              cases o with
              | false =>
                obtain ⟨x, z1, z2⟩ := so
                exact ⟨x, z1, dq_mono hs _ _ z2⟩
              | true =>
                obtain ⟨a', xs', ds', z1, z2, z3, z4, z5, z6, z7⟩ := so
                refine ⟨a', xs', ds', z1, z2, mem a' z3 fun y => ?_, z4, dqAll_mono hs _ _ z5, z6, z7⟩
                subst y
                exact hj (R.inj i j a' _ _ h e h1 z1)
        · have fact : ∀ {j : Nat} {d : PyData}, (env.set i (Dn.freeze1 (.dat true (.list ds))))[j]? = some (.dat true d) → env[j]? = some (.dat true d) := fun {j d} z => by
            by_cases hj : i = j
            · subst hj
              rw [List.getElem?_set_self hi] at z
              cases z
            · rw [List.getElem?_set_ne hj] at z
              exact z
          exact R.inj j l b d e (fact e1) (fact e2) e3 e4
theorem SR.freeze (R : SR K en S cc env k σ H) : ∀ is : List Nat, ∃ S', SR K en S' cc (freeze env is) k σ H ∧ Same (hide S H) (hide S' H)
  | [] => ⟨S, R, fun _ _ z => z⟩
  | i :: r => by
    obtain ⟨S1, R1, s1⟩ := R.freeze r
    obtain ⟨S2, R2, s2⟩ := R1.freeze1 i
    exact ⟨S2, R2, fun b o z => s2 b o (s1 b o z)⟩
theorem same_trans {A B C : Hp} (h : Same A B) (g : Same B C) : Same A C := fun b o z => g b o (h b o z)
/-- a list that is new joins what is hidden -/
theorem SR.hideGrown (R : SR K en S cc env k σ H) (e : SameX cc H H') (c : CkOk cc k' H') {p : Addr} {o : HO} (hp : H p = none) (hn : H' p = some o) :
    SR K en (p :: S) cc env k' σ H' ∧ FreeAt K en cc env σ p ∧ Same (hide S H) (hide (p :: S) H') := by
  have R1 := R.hideNew (o := o) hp
  have e1 : SameX cc (upd H p o) H' := fun b u z q => by
    by_cases y : b = p
    · subst y; rw [upd_same] at q; cases q; exact hn
    · rw [upd_ne y] at q; exact e b u z q
  refine ⟨R1.grow e1 c, R.freeAt hp, same_trans (hide_new (o := o) hp) (hide_same e1 R1.ckS)⟩
/-- a slot takes an own list -/
theorem SR.putOwn (R : SR K en S cc env k σ H) {i : Nat} {p : Addr} {vs : List V} {ds : List PyData} (hS : p ∈ S) (h : H p = some (.lst vs)) (hd : DqAll K (hide S H) vs ds) (F : FreeAt K en cc env σ p) :
    SR K en S cc (env.set i (.dat true (.list ds))) k (σ.set i (some (.ref p))) H :=
  R.put (fun _ => ⟨p, vs, ds, rfl, rfl, hS, h, hd, F.en, F.cc⟩) fun d _ j a e _ h1 h2 z => by
    cases z
    exact F.own j e h1 h2
/-- an own list changes -/
theorem SR.updOwn (R : SR K en S cc env k σ H) {i : Nat} {a : Addr} {d0 : PyData} {vs : List V} {ds : List PyData} (hi : env[i]? = some (.dat true d0)) (hσ : σ[i]? = some (some (.ref a))) (hd : DqAll K (hide S H) vs ds) :
    SR K en S cc (env.set i (.dat true (.list ds))) k σ (upd H a (.lst vs)) ∧ hide S (upd H a (.lst vs)) = hide S H := by
  obtain ⟨a', xs, ds0, h1, rfl, h3, h4, h5, h6, h7⟩ := R.slots i _ hi
  rw [hσ] at h1
  cases h1
  have R1 : SR K en S cc (env.set i .un) k (σ.set i (some (.ref a))) H := R.put (fun _ => trivial) fun d z => nomatch z
  rw [set_same hσ] at R1
  have hl := get_lt hi
  have fact : ∀ {j : Nat} {s : Sl}, (env.set i .un)[j]? = some s → (s = .un) ∨ (i ≠ j ∧ env[j]? = some s) := fun {j s} z => by
    by_cases hj : i = j
    · subst hj
      rw [List.getElem?_set_self hl] at z
      cases z
      exact .inl rfl
    · rw [List.getElem?_set_ne hj] at z
      exact .inr ⟨hj, z⟩
  have F : FreeAt K en cc (env.set i .un) σ a := by
    refine ⟨fun j d e z => ?_, fun j ns e z H' => ?_, h7, h6⟩
    · rcases fact e with q | ⟨q1, q2⟩
      · cases q
      · exact q1 (R.inj i j a _ _ hi q2 hσ z)
    · rcases fact e with q | ⟨q1, q2⟩
      · cases q
      · obtain ⟨b, z1, z2, z3⟩ := R.slots j _ q2
        rw [z] at z1
        cases z1
        rcases z3 with ⟨_, z3⟩ | z3
        · exact absurd h6 z3
        · exact z3 H'
  have R2 := R1.write (o := .lst vs) h3 F
  have hh : hide S (upd H a (.lst vs)) = hide S H := hide_upd_in h3
  have R3 := R2.putOwn (i := i) h3 upd_same (by rw [hh]; exact hd) F
  rw [List.set_set, set_same hσ] at R3
  exact ⟨R3, hh⟩
end
end Dn
set_option Elab.async false
set_option linter.all false
set_option maxRecDepth 100000
/-! Dn17: statements: readings, the simple ones. -/
namespace Dn
open PySem PySem.Spec PyProof.Rows L2
/-- the caller's cask is this def's own; or there is none yet (a def that makes it) -/
def CcOk (mk : Bool) (en : En) (cc : Option Addr) : Prop := if mk = true then en.cc = none else cc = en.cc
/-- what is wanted behind, by what the small language says -/
def Post (K : PySem.W.Frag) (mk : Bool) (en : En) (S : List Addr) (H : Hp) (D : Ends) : Res → Prop
  | .nx env k => ∀ S' cc' σ' H', CcOk mk en cc' → Same (hide S H) (hide S' H') → SR K en S' cc' env k σ' H' → D.nx σ' H'
  | .bk env k => ∀ S' cc' σ' H', CcOk mk en cc' → Same (hide S H) (hide S' H') → SR K en S' cc' env k σ' H' → D.bk σ' H'
  | .ct env k => ∀ S' cc' σ' H', CcOk mk en cc' → Same (hide S H) (hide S' H') → SR K en S' cc' env k σ' H' → D.ct σ' H'
  | .rt d k f => ∀ v H', SameX en.cc en.H H' → CkOk en.cc k H' → Dq K (hide en.S H') v d → (f = true → ∃ p, v = .ref p ∧ en.H p = none) → D.rt v H'
theorem Post.mono {K : PySem.W.Frag} {mk : Bool} {en : En} {S S1 : List Addr} {H H1 : Hp} {D : Ends} {r : Res} (h : Post K mk en S H D r) (s : Same (hide S H) (hide S1 H1)) : Post K mk en S1 H1 D r := by
  cases r with
  | nx env k => exact fun S' cc' σ' H' a b => h S' cc' σ' H' a (same_trans s b)
  | bk env k => exact fun S' cc' σ' H' a b => h S' cc' σ' H' a (same_trans s b)
  | ct env k => exact fun S' cc' σ' H' a b => h S' cc' σ' H' a (same_trans s b)
  | rt d k => exact h
section
variable (Φ : Phi) (G : Glo) (K : PySem.W.Frag)
def TSt (mk : Bool) (n : Nat) (c : CS) : TS := fun D σ H => ∃ en S cc env k r, CcOk mk en cc ∧ SR K en S cc env k σ H ∧ denS Φ G n c env k = some r ∧ Post K mk en S H D r
def TSts (mk : Bool) (n : Nat) (c : CSs) : TS := fun D σ H => ∃ en S cc env k r, CcOk mk en cc ∧ SR K en S cc env k σ H ∧ denSs Φ G n c env k = some r ∧ Post K mk en S H D r
end
theorem ps_imp {X : Cx} {st : Stmt} {t t' : TS} (h : PS X st t) (i : ∀ D σ H, t' D σ H → t D σ H) : PS X st t' := ⟨fun pins s σ H D I q => h.run pins s σ H D I (i _ _ _ q)⟩
theorem pss_imp {X : Cx} {st : List Stmt} {t t' : TS} (h : PSs X st t) (i : ∀ D σ H, t' D σ H → t D σ H) : PSs X st t' := ⟨fun pins s σ H D I q => h.run pins s σ H D I (i _ _ _ q)⟩
section
variable {X : Cx} {Φ : Phi} {G : Glo} {K : PySem.W.Frag} {mk : Bool} {n : Nat} {pos : Pos} {en : En} {S : List Addr} {cc : Option Addr} {env env' : DEnv} {k k' : KS} {σ : St} {H H' : Hp} {D : Ends}
theorem hs_same (R : SR K en S cc env k σ H) (e : SameX cc H H') : Same (hide S H) (hide S H') := hide_same e R.ckS
/-- at a return -/
theorem ret_ok {d : PyData} {v : V} {f : Bool} (hc : CcOk mk en cc) (R : SR K en S cc env k' σ H') (hd : Dq K (hide S H') v d) (h : Post K mk en S H D (.rt d k' f)) (hf : f = true → ∃ p, v = .ref p ∧ en.H p = none) : D.rt v H' := by
  refine h v H' R.same (fun c z => ?_) (dq_mono (hide_sub R.sub) _ _ hd) hf
  unfold CcOk at hc
  split at hc
  · rw [hc] at z; cases z
  · exact R.ckk c (by rw [hc]; exact z)
theorem s_ret {e : Expr} {c : CE} (he : PE X e (T Φ G X.K false c)) : PS X (.Return (some e) pos) (TSt Φ G X.K mk n (.ret c)) := ps_imp (ps_ret he) fun D σ H h => by
  obtain ⟨en, S, cc, env, k, r, hc, R, hq, po⟩ := h
  simp only [denS, Option.map_eq_some_iff] at hq
  obtain ⟨⟨d, k1⟩, e1, rfl⟩ := hq
  obtain ⟨S1, R1, s1⟩ := R.freeze (leakE c false)
  exact ⟨en, S1, cc, _, k, d, k1, R1, e1, fun v H' sx ck hv => ret_ok (S := S1) (H := H) hc (R1.grow sx ck) hv.dq po fun z => by
    have hv2 : c.fresh d = true → FreshOk X.K S1 H H' v d := hv.2
    obtain ⟨p, vs, ds, h1, h2, _⟩ := hv2 z
    exact ⟨p, h1, (R1.freeAt h2).en⟩⟩
theorem s_retN : PS X (.Return none pos) (TSt Φ G X.K mk n .retN) := ps_imp ps_retN fun D σ H h => by
  obtain ⟨en, S, cc, env, k, r, hc, R, hq, po⟩ := h
  simp only [denS, Option.some.injEq] at hq
  subst hq
  exact ret_ok hc R .non po (fun z => nomatch z)
theorem s_pass : PS X (.Pass pos) (TSt Φ G X.K mk n .pas) := ps_imp ps_pass fun D σ H h => by
  obtain ⟨en, S, cc, env, k, r, hc, R, hq, po⟩ := h
  simp only [denS, Option.some.injEq] at hq
  subst hq
  exact po S cc σ H hc (fun _ _ z => z) R
theorem s_break : PS X (.Break pos) (TSt Φ G X.K mk n .brk) := ps_imp ps_break fun D σ H h => by
  obtain ⟨en, S, cc, env, k, r, hc, R, hq, po⟩ := h
  simp only [denS, Option.some.injEq] at hq
  subst hq
  exact po S cc σ H hc (fun _ _ z => z) R
theorem s_cont : PS X (.Continue pos) (TSt Φ G X.K mk n .cnt) := ps_imp ps_continue fun D σ H h => by
  obtain ⟨en, S, cc, env, k, r, hc, R, hq, po⟩ := h
  simp only [denS, Option.some.injEq] at hq
  subst hq
  exact po S cc σ H hc (fun _ _ z => z) R
theorem s_stuck {st : Stmt} : PS X st (TSt Φ G X.K mk n .stuck) := ps_imp ps_never fun D σ H h => by
  obtain ⟨en, S, cc, env, k, r, hc, R, hq, po⟩ := h
  simp [denS] at hq
theorem s_exc {e : Expr} {c : CE} (he : PE X e (T Φ G X.K false c)) (hs : swapsWith e none pos.line X.env = pure false) : PS X (.Expr e pos) (TSt Φ G X.K mk n (.exc c)) := ps_imp (ps_expr he hs) fun D σ H h => by
  obtain ⟨en, S, cc, env, k, r, hc, R, hq, po⟩ := h
  simp only [denS, Option.map_eq_some_iff] at hq
  obtain ⟨⟨d, k1⟩, e1, rfl⟩ := hq
  obtain ⟨S1, R1, s1⟩ := R.freeze (leakE c false)
  refine ⟨en, S1, cc, _, k, d, k1, R1, e1, fun v H' sx ck hv => po S1 cc σ H' hc (same_trans s1 (hs_same R1 sx)) (R1.grow sx ck)⟩
theorem ss_nil : PSs X [] (TSts Φ G X.K mk n .nil) := pss_imp pss_nil fun D σ H h => by
  obtain ⟨en, S, cc, env, k, r, hc, R, hq, po⟩ := h
  simp only [denSs, Option.some.injEq] at hq
  subst hq
  exact po S cc σ H hc (fun _ _ z => z) R
theorem ss_cons {st : Stmt} {rest : List Stmt} {c : CS} {cs : CSs} (h1 : PS X st (TSt Φ G X.K mk n c)) (h2 : PSs X rest (TSts Φ G X.K mk n cs)) : PSs X (st :: rest) (TSts Φ G X.K mk n (.cons c cs)) := pss_imp (pss_cons h1 h2) fun D σ H h => by
  obtain ⟨en, S, cc, env, k, r, hc, R, hq, po⟩ := h
  simp only [denSs, Option.bind_eq_some_iff] at hq
  obtain ⟨q, e1, e2⟩ := hq
  refine ⟨en, S, cc, env, k, q, hc, R, e1, ?_⟩
  cases q with
  | nx env1 k1 => exact fun S' cc' σ' H' hc' s1 R' => ⟨en, S', cc', env1, k1, r, hc', R', e2, po.mono s1⟩
  | bk env1 k1 => cases e2; exact po
  | ct env1 k1 => cases e2; exact po
  | rt d k1 => cases e2; exact po
theorem s_if {t : Expr} {a b : List Stmt} {c : CE} {ca cb : CSs} (ht : PT X t (TB Φ G X.K c)) (ha : PSs X a (TSts Φ G X.K mk n ca)) (hb : PSs X b (TSts Φ G X.K mk n cb)) : PS X (.If t a b pos) (TSt Φ G X.K mk n (.iff c ca cb)) := ps_imp (ps_if ht ha hb) fun D σ H h => by
  obtain ⟨en, S, cc, env, k, r, hc, R, hq, po⟩ := h
  simp only [denS, Option.bind_eq_some_iff] at hq
  obtain ⟨⟨d, k1⟩, e1, e2⟩ := hq
  obtain ⟨S1, R1, s1⟩ := R.freeze (leakE c true)
  have hb : ∃ v, d = .bool v := by
    revert e2
    cases d <;> first | (intro; exact ⟨_, rfl⟩) | (intro z; cases z)
  obtain ⟨v, rfl⟩ := hb
  refine ⟨en, S1, cc, _, k, v, k1, R1, e1, fun H1 sx ck => ?_⟩
  have R2 := R1.grow sx ck
  have po2 := po.mono (same_trans s1 (hs_same R1 sx))
  cases v with
  | true => exact ⟨en, S1, cc, _, k1, r, hc, R2, e2, po2⟩
  | false => exact ⟨en, S1, cc, _, k1, r, hc, R2, e2, po2⟩

/-! ### while -/
theorem s_while {t : Expr} {b : List Stmt} {c : CE} {cb : CSs} (hp : PassesOwn (model X.prog X.w) X.A X.env X.xe) (ht : PT X t (TB Φ G X.K c)) (hb : PSs X b (TSts Φ G X.K mk n cb)) : PS X (.While t b [] pos) (TSt Φ G X.K mk n (.whl c cb)) := ps_imp (ps_while hp ht hb) fun D σ H h => by
  obtain ⟨en, S, cc, env, k, r, hc, R, hq, po⟩ := h
  simp only [denS] at hq
  obtain ⟨S1, R1, s1⟩ := R.freeze (leakE c true)
  refine ⟨fun m σ H => ∃ S cc env k, CcOk mk en cc ∧ SR X.K en S cc env k σ H ∧ whlD (fun env k => den Φ G c true env k) (fun env k => denSs Φ G n cb env k) m env k = some r ∧ Post X.K mk en S H D r, ⟨n, S1, cc, _, k, hc, R1, hq, po.mono s1⟩, ?_⟩
  intro m σ H ⟨S, cc, env, k, hc, R, hq, po⟩
  cases m with
  | zero => simp [whlD] at hq
  | succ m =>
    simp only [whlD, Option.bind_eq_some_iff] at hq
    obtain ⟨⟨d, k1⟩, e1, e2⟩ := hq
    have hb : ∃ v, d = .bool v := by
      revert e2
      cases d <;> first | (intro; exact ⟨_, rfl⟩) | (intro z; cases z)
    obtain ⟨v, rfl⟩ := hb
    refine ⟨en, S, cc, env, k, v, k1, R, e1, fun H1 sx ck => ?_⟩
    have R2 := R.grow sx ck
    have po2 := po.mono (hs_same R sx)
    cases v with
    | false =>
      cases e2
      refine iteF ?_
      exact po S cc σ H1 hc (hs_same R sx) R2
    | true =>
      simp only [Option.bind_eq_some_iff] at e2
      obtain ⟨q, e3, e4⟩ := e2
      refine iteT ?_
      refine ⟨fun σ H => ∃ S cc env k, CcOk mk en cc ∧ SR X.K en S cc env k σ H ∧ whlD (fun env k => den Φ G c true env k) (fun env k => denSs Φ G n cb env k) m env k = some r ∧ Post X.K mk en S H D r, fun σ' H' hN => ⟨m, Nat.lt_succ_self m, hN⟩, en, S, cc, env, k1, q, hc, R2, e3, ?_⟩
      cases q with
      | nx env3 k3 => exact fun S' cc' σ' H' hc' s3 R3 => ⟨S', cc', env3, k3, hc', R3, e4, po2.mono s3⟩
      | ct env3 k3 => exact fun S' cc' σ' H' hc' s3 R3 => ⟨S', cc', env3, k3, hc', R3, e4, po2.mono s3⟩
      | bk env3 k3 =>
        cases e4
        exact po2
      | rt d k3 =>
        cases e4
        exact po

/-! ### for -/
theorem s_for {tg iter : Expr} {b : List Stmt} {p : Pat} {ci : CI} {cb : CSs} (hp : PassesOwn (model X.prog X.w) X.A X.env X.xe) (hcalm : X.calm = true) (hi : PI X tg iter (TIr Φ G X.K ci)) (hg : PG X tg (TGp X.K p)) (hb : PSs X b (TSts Φ G X.K mk n cb))
    (hfo : ∀ x, foldedSetIterable iter X.env x = pure x) : PS X (.For tg iter b [] pos) (TSt Φ G X.K mk n (.for_ p ci cb)) := ps_imp (ps_for hp hcalm hi hg hb hfo) fun D σ H h => by
  obtain ⟨en, S, cc, env, k, r, hc, R, hq, po⟩ := h
  simp only [denS, Option.bind_eq_some_iff] at hq
  obtain ⟨⟨xs, k1⟩, e1, e2⟩ := hq
  obtain ⟨S1, R1, s1⟩ := R.freeze (leakI ci)
  refine ⟨en, S1, cc, _, k, xs, k1, R1, e1, fun J H1 sx c1 ok => ?_⟩
  have R2 := R1.grow sx c1
  have po2 := po.mono (same_trans s1 (hs_same R1 sx))
  refine ⟨fun i m σ H => m = xs.length - i ∧ i ≤ xs.length ∧ ∃ S cc env k, CcOk mk en cc ∧ SR X.K en S cc env k σ H ∧ Same (hide S1 H1) (hide S H) ∧ forD (fun x env k => (bindP p x env).bind fun en => denSs Φ G n cb en k) (xs.drop i) env k = some r ∧ Post X.K mk en S H D r,
    ⟨_, rfl, Nat.zero_le _, S1, cc, _, k1, hc, R2, (fun _ _ z => z), e2, po2⟩, ?_⟩
  rintro i m σ H2 ⟨rfl, hi, S, cc, env, k, hc, R, hb, hq, po⟩
  obtain ⟨J1, J2⟩ := ok H2 (fun b o z => hide_le _ _ (hb b o z))
  by_cases hlt : i < xs.length
  · have hx : xs[i]? = some xs[i] := List.getElem?_eq_getElem hlt
    obtain ⟨hgo, hy⟩ := J1 i _ hx
    refine .inr ⟨hgo, fun σ H => i + 1 ≤ xs.length ∧ ∃ S cc env k, CcOk mk en cc ∧ SR X.K en S cc env k σ H ∧ Same (hide S1 H1) (hide S H) ∧ forD (fun x env k => (bindP p x env).bind fun en => denSs Φ G n cb en k) (xs.drop (i + 1)) env k = some r ∧ Post X.K mk en S H D r,
      fun σ' H' z => ⟨_, by omega, rfl, z⟩, fun x H3 y3 => ?_⟩
    obtain ⟨sx, dx⟩ := hy x H3 y3
    have sx' : SameX cc H2 H3 := fun b o _ z => sx b o (fun w => nomatch w) z
    rw [List.drop_eq_getElem_cons hlt] at hq
    simp only [forD, Option.bind_eq_some_iff] at hq
    obtain ⟨r1, ⟨env1, t1, t2⟩, t3⟩ := hq
    have ck3 : CkOk cc k H3 := fun a z => sx a _ (fun w => nomatch w) (R.ckk a z)
    have R4 := R.grow sx' ck3
    have s3 := hs_same R sx'
    refine ⟨en, S, cc, env, k, xs[i], env1, R4, dx _ R.trk hb, t1, fun σ2 R5 hσ => ?_⟩
    refine ⟨en, S, cc, env1, k, r1, hc, R5, t2, ?_⟩
    cases r1 with
    | nx env3 k3 => exact fun S' cc' σ' H' hc' s5 R6 => ⟨hlt, S', cc', env3, k3, hc', R6, same_trans hb (same_trans s3 s5), t3, po.mono (same_trans s3 s5)⟩
    | ct env3 k3 => exact fun S' cc' σ' H' hc' s5 R6 => ⟨hlt, S', cc', env3, k3, hc', R6, same_trans hb (same_trans s3 s5), t3, po.mono (same_trans s3 s5)⟩
    | bk env3 k3 =>
      cases t3
      exact po.mono s3
    | rt d k3 =>
      cases t3
      exact po
  · have hi' : i = xs.length := by omega
    subst hi'
    rw [List.drop_length] at hq
    simp only [forD, Option.some.injEq] at hq
    subst hq
    exact .inl ⟨J2, po S cc σ H2 hc (fun _ _ z => z) R⟩
end
end Dn
set_option Elab.async false
set_option linter.all false
set_option maxRecDepth 100000
/-! Dn18: statements: stores. -/
namespace Dn
open PySem PySem.Spec PyProof.Rows L2
section
variable {X : Cx} {Φ : Phi} {G : Glo} {K : PySem.W.Frag} {mk : Bool} {n : Nat} {pos : Pos} {en : En} {S : List Addr} {cc : Option Addr} {env env' : DEnv} {k k' : KS} {σ : St} {H H' : Hp} {D : Ends} {e : Expr} {c : CE}
/-- what a store of one value needs -/
theorem put_one {i : Nat} {v : V} {d : PyData} (R : SR K en S cc env k σ H) (sx : SameX cc H H') (ck : CkOk cc k' H') (hv : VOk K S cc H H' false c v d) (h : envSet env i (.dat (c.fresh d) d) = some env') :
    ∃ S', SR K en S' cc env' k' (σ.set i (some v)) H' ∧ Same (hide S H) (hide S' H') := by
  obtain ⟨hi, rfl⟩ := envSet_some h
  have R1 := R.grow sx ck
  cases f : c.fresh d with
  | false => exact ⟨S, R1.putD hv.dq, hs_same R sx⟩
  | true =>
    have hv2 : c.fresh d = true → FreshOk K S H H' v d := hv.2
    obtain ⟨p, vs, ds, rfl, h1, h2, rfl, h3⟩ := hv2 f
    obtain ⟨R2, F, s2⟩ := R.hideGrown sx ck h1 h2
    exact ⟨p :: S, R2.putOwn (List.mem_cons_self ..) h2 h3 F, s2⟩
theorem s_asg {i : Nat} {st : Stmt} (h : PS X st (tAsg (T Φ G X.K false c) (gName i))) : PS X st (TSt Φ G X.K mk n (.asg i c)) := ps_imp h fun D σ H h => by
  obtain ⟨en, S, cc, env, k, r, hc, R, hq, po⟩ := h
  simp only [denS, Option.bind_eq_some_iff, Option.map_eq_some_iff] at hq
  obtain ⟨⟨d, k1⟩, e1, env1, e2, rfl⟩ := hq
  obtain ⟨S1, R1, s1⟩ := R.freeze (leakE c false)
  refine ⟨en, S1, cc, _, k, d, k1, R1, e1, fun v H' sx ck hv => ?_⟩
  obtain ⟨S2, R2, s2⟩ := put_one R1 sx ck hv e2
  exact po S2 cc _ H' hc (same_trans s1 s2) R2
/-- a tuple taken apart -/
theorem s_unp {st : Stmt} {p : PatL} (h : PS X st (tAsg (T Φ G X.K false c) (TGp X.K (.tup p)))) : PS X st (TSt Φ G X.K mk n (.unp p c)) := ps_imp h fun D σ H h => by
  obtain ⟨en, S, cc, env, k, r, hc, R, hq, po⟩ := h
  simp only [denS, Option.bind_eq_some_iff] at hq
  obtain ⟨⟨d, k1⟩, e1, e2⟩ := hq
  obtain ⟨S1, R1, s1⟩ := R.freeze (leakE c false)
  refine ⟨en, S1, cc, _, k, d, k1, R1, e1, fun v H' sx ck hv => ?_⟩
  have hd : ∃ ds env1, d = .tuple ds ∧ bindPL p ds (freeze env (leakE c false)) = some env1 ∧ r = .nx env1 k1 := by
    revert e2
    cases d <;> first | (intro z; cases z; done) | skip
    intro z
    simp only [Option.map_eq_some_iff] at z
    obtain ⟨e3, z1, z2⟩ := z
    exact ⟨_, e3, rfl, z1, z2.symm⟩
  obtain ⟨ds, env1, rfl, e3, rfl⟩ := hd
  have R2 := R1.grow sx ck
  refine ⟨en, S1, cc, _, k1, .tuple ds, env1, R2, hv.dq, by simpa only [bindP] using e3, fun σ' R3 _ => ?_⟩
  exact po S1 cc σ' H' hc (same_trans s1 (hs_same R1 sx)) R3

/-! ### several values at once -/
inductive OAll (K : PySem.W.Frag) (S : List Addr) (H : Hp) : List Addr → List V → List (Bool × PyData) → Prop
  | nil : OAll K S H [] [] []
  | dat {ps v vs d ds} : Dq K (hide S H) v d → OAll K S H ps vs ds → OAll K S H ps (v :: vs) ((false, d) :: ds)
  | own {ps p ws es vs ds} : p ∈ S → H p = some (.lst ws) → DqAll K (hide S H) ws es → OAll K S H ps vs ds → OAll K S H (p :: ps) (.ref p :: vs) ((true, .list es) :: ds)
theorem OAll.len {ps : List Addr} {vs : List V} {ds : List (Bool × PyData)} (h : OAll K S H ps vs ds) : vs.length = ds.length := by
  induction h with
  | nil => rfl
  | dat _ _ ih => simp [ih]
  | own _ _ _ _ ih => simp [ih]
def TO (Φ : Phi) (G : Glo) (K : PySem.W.Frag) (c : CA) : TA := fun σ H Q => ∃ en S cc env k ds k', SR K en S cc env k σ H ∧ denO Φ G c env k = some (ds, k') ∧
  ∀ vs S' H' ps, SameX cc H H' → CkOk cc k' H' → SR K en S' cc env k' σ H' → (∀ a ∈ S, a ∈ S') → Same (hide S H) (hide S' H') → OAll K S' H' ps vs ds → ps.Nodup → (∀ p ∈ ps, FreeAt K en cc env σ p ∧ H p = none) → Q vs H'
theorem to_nil : PA X [] (TO Φ G X.K .nil) := pa_imp pa_nil fun σ H Q h => by
  obtain ⟨en, S, cc, env, k, d, k', R, hden, q⟩ := h
  simp only [denO, Option.some.injEq, Prod.mk.injEq] at hden
  obtain ⟨rfl, rfl⟩ := hden
  exact q [] S H [] (SameX.refl _ _) R.ckk R (fun _ z => z) (fun _ _ z => z) .nil List.nodup_nil (fun _ z => nomatch z)
theorem to_cons {r : CA} {es : List Expr} (h1 : PE X e (T Φ G X.K false c)) (h2 : PA X es (TO Φ G X.K r)) (hs : starEach (e :: es) X.env = (false, eval e X.env) :: starEach es X.env) : PA X (e :: es) (TO Φ G X.K (.cons c r)) := by
  refine pa_imp (pa_cons h1 h2 hs) fun σ H Q h => ?_
  obtain ⟨en, S, cc, env, k, d, k', R, hden, q⟩ := h
  simp only [denO, Option.bind_eq_some_iff, Option.map_eq_some_iff] at hden
  obtain ⟨⟨d1, k1⟩, e1, ⟨ds, k2⟩, e2, e3⟩ := hden
  simp only [Prod.mk.injEq] at e3
  obtain ⟨rfl, rfl⟩ := e3
  refine ⟨en, S, cc, env, k, d1, k1, R, e1, fun v H1 s1 c1 v1 => ?_⟩
  have R1 := R.grow s1 c1
  cases f : c.fresh d1 with
  | false =>
    refine ⟨en, S, cc, env, k1, ds, k2, R1, e2, fun vs S' H' ps sx ck R' sub sm oa nd fr => ?_⟩
    refine q (v :: vs) S' H' ps (s1.trans sx) ck R' sub (same_trans (hs_same R s1) sm) ?_ nd fun p hp => ⟨(fr p hp).1, R.none_back s1 c1 (fr p hp).2⟩
    rw [f]
    exact .dat (dq_mono sm _ _ v1.dq) oa
  | true =>
    have hv2 : c.fresh d1 = true → FreshOk X.K S H H1 v d1 := v1.2
    obtain ⟨p, ws, es1, rfl, g1, g2, rfl, g3⟩ := hv2 f
    obtain ⟨R2, F, s2⟩ := R.hideGrown s1 c1 g1 g2
    refine ⟨en, p :: S, cc, env, k1, ds, k2, R2, e2, fun vs S' H' ps sx ck R' sub sm oa nd fr => ?_⟩
    refine q (.ref p :: vs) S' H' (p :: ps) (s1.trans sx) ck R' (fun a z => sub a (List.mem_cons_of_mem _ z)) (same_trans s2 sm) ?_ ?_ ?_
    · rw [f]
      exact .own (sub p (List.mem_cons_self ..)) (sx p _ F.cc g2) (dqAll_mono sm _ _ g3) oa
    · refine List.nodup_cons.mpr ⟨fun z => ?_, nd⟩
      have := (fr p z).2
      rw [g2] at this; cases this
    · intro a ha
      rcases List.mem_cons.mp ha with rfl | ha
      · exact ⟨F, g1⟩
      · exact ⟨(fr a ha).1, R.none_back s1 c1 (fr a ha).2⟩
def putL (σ : St) : List Nat → List V → St
  | i :: is, v :: vs => putL (σ.set i (some v)) is vs
  | _, _ => σ
theorem FreeAt.set {i : Nat} {s : Sl} {x : Option V} {p : Addr} (F : FreeAt K en cc env σ p) (h1 : ∀ d, s = .dat true d → x ≠ some (.ref p)) (h2 : ∀ ns, s ≠ .scr ns) : FreeAt K en cc (env.set i s) (σ.set i x) p := by
  have fact : ∀ {j : Nat} {t : Sl}, (env.set i s)[j]? = some t → (i = j ∧ t = s ∧ i < env.length) ∨ (i ≠ j ∧ env[j]? = some t) := fun {j t} z => by
    by_cases hj : i = j
    · subst hj
      have hl : i < env.length := by
        have := get_lt z
        rwa [List.length_set] at this
      rw [List.getElem?_set_self hl] at z
      cases z
      exact .inl ⟨rfl, rfl, hl⟩
    · rw [List.getElem?_set_ne hj] at z
      exact .inr ⟨hj, z⟩
  refine ⟨fun j d e z => ?_, fun j ns e z => ?_, F.cc, F.en⟩
  · rcases fact e with ⟨rfl, q, hl⟩ | ⟨q1, q2⟩
    · by_cases hl2 : i < σ.length
      · rw [List.getElem?_set_self hl2] at z
        exact h1 d q.symm (Option.some.inj z)
      · rw [List.getElem?_eq_none (by rw [List.length_set]; omega)] at z
        cases z
    · rw [List.getElem?_set_ne q1] at z
      exact F.own j d q2 z
  · rcases fact e with ⟨rfl, q, hl⟩ | ⟨q1, q2⟩
    · exact absurd q.symm (h2 ns)
    · rw [List.getElem?_set_ne q1] at z
      exact F.scr j ns q2 z
theorem sets_ok : ∀ {is : List Nat} {ps : List Addr} {vs : List V} {ds : List (Bool × PyData)} {env env' : DEnv} {σ : St}, SR K en S cc env k σ H → OAll K S H ps vs ds → ps.Nodup → (∀ p ∈ ps, FreeAt K en cc env σ p) → setsD is ds env = some env' →
    SR K en S cc env' k (putL σ is vs) H
  | [], ps, vs, ds, env, env', σ, R, oa, nd, fr, h => by
    cases ds with
    | nil =>
      simp only [setsD, Option.some.injEq] at h
      subst h
      exact R
    | cons _ _ => simp [setsD] at h
  | i :: is, ps, vs, ds, env, env', σ, R, oa, nd, fr, h => by
    cases oa with
    | nil => simp [setsD] at h
    | dat hd oa =>
      simp only [setsD, Option.bind_eq_some_iff] at h
      obtain ⟨e1, h1, h2⟩ := h
      obtain ⟨hi, rfl⟩ := envSet_some h1
      rename_i v vs d ds
      show SR K en S cc env' k (putL (σ.set i (some v)) is vs) H
      exact sets_ok (R.putD hd) oa nd (fun p hp => (fr p hp).set (fun _ z => nomatch z) (fun _ z => nomatch z)) h2
    | own g1 g2 g3 oa =>
      simp only [setsD, Option.bind_eq_some_iff] at h
      obtain ⟨e1, h1, h2⟩ := h
      obtain ⟨hi, rfl⟩ := envSet_some h1
      obtain ⟨n1, n2⟩ := List.nodup_cons.mp nd
      rename_i ps p ws es vs ds
      show SR K en S cc env' k (putL (σ.set i (some (.ref p))) is vs) H
      refine sets_ok (R.putOwn g1 g2 g3 (fr _ (List.mem_cons_self ..))) oa n2 (fun p hp => (fr p (List.mem_cons_of_mem _ hp)).set (fun _ _ z => ?_) (fun _ z => nomatch z)) h2
      cases z
      exact n1 hp
theorem to_mono {a : CA} {Q Q' : List V → Hp → Prop} (h : TO Φ G K a σ H Q) (i : ∀ vs H, Q vs H → Q' vs H) : TO Φ G K a σ H Q' := by
  obtain ⟨en, S, cc, env, k, d, k', R, hden, q⟩ := h
  exact ⟨en, S, cc, env, k, d, k', R, hden, fun vs S' H' ps a b c d e f g h => i _ _ (q vs S' H' ps a b c d e f g h)⟩
theorem setsD_len : ∀ {is : List Nat} {ds : List (Bool × PyData)} {env env' : DEnv}, setsD is ds env = some env' → ds.length = is.length
  | [], ds, _, _, h => by cases ds <;> simp [setsD] at h; rfl
  | i :: is, ds, env, env', h => by
    cases ds with
    | nil => simp [setsD] at h
    | cons d ds =>
      simp only [setsD, Option.bind_eq_some_iff] at h
      obtain ⟨e1, _, h2⟩ := h
      simp only [List.length_cons, setsD_len h2]
theorem s_par {st : Stmt} {is : List Nat} {a : CA} {t : TS} (h : PS X st t) (ht : ∀ D σ H, (TO Φ G X.K a σ H fun vs H1 => vs.length = is.length ∧ ((∀ H2, SameX none H1 H2 → D.nx (putL σ is vs) H2))) → t D σ H) : PS X st (TSt Φ G X.K mk n (.par is a)) := ps_imp h fun D σ H h => ht D σ H <| by
  obtain ⟨en, S, cc, env, k, r, hc, R, hq, po⟩ := h
  simp only [denS, Option.bind_eq_some_iff, Option.map_eq_some_iff] at hq
  obtain ⟨⟨ds, k1⟩, e1, env1, e2, rfl⟩ := hq
  obtain ⟨S1, R1, s1⟩ := R.freeze (leakA a false)
  refine ⟨en, S1, cc, _, k, ds, k1, R1, e1, fun vs S' H' ps sx ck R' sub sm oa nd fr => ⟨by rw [oa.len, setsD_len e2], fun H2 sx2 => ?_⟩⟩
  have R3 := sets_ok R' oa nd (fun p hp => (fr p hp).1) e2
  have sx3 : SameX cc H' H2 := fun b o _ z => sx2 b o (fun w => nomatch w) z
  exact po S' cc _ H2 hc (same_trans s1 (same_trans sm (hs_same R' sx3))) (R3.grow sx3 fun c z => sx2 c _ (fun w => nomatch w) (R'.ckk c z))
end
end Dn
set_option Elab.async false
set_option linter.all false
set_option maxRecDepth 100000
/-! Dn19: statements: own lists change, the cask is made. -/
namespace Dn
open PySem PySem.Spec PyProof.Rows L2
section
variable {X : Cx} {Φ : Phi} {G : Glo} {K : PySem.W.Frag} {mk : Bool} {n : Nat} {pos cpos ap px : Pos} {en : En} {S : List Addr} {cc : Option Addr} {env env' : DEnv} {k k' : KS} {σ : St} {H H' : Hp} {D : Ends} {e ix : Expr} {c ci : CE} {x : Str} {i : Nat}
theorem own_at (R : SR K en S cc env k σ H) {ds : List PyData} (h : env[i]? = some (.dat true (.list ds))) : ∃ a xs, σ[i]? = some (some (.ref a)) ∧ H a = some (.lst xs) ∧ DqAll K (hide S H) xs ds := by
  obtain ⟨a, xs, ds', h1, h2, h3, h4, h5, _⟩ := R.slots i _ h
  cases h2
  exact ⟨a, xs, h1, h4, h5⟩
theorem s_setI {st : Stmt} (h : PS X st (tAsg (T Φ G X.K false c) (gSub (tVar i) (T Φ G X.K true ci) rSetL))) : PS X st (TSt Φ G X.K mk n (.setI i ci c)) := ps_imp h fun D σ H h => by
  obtain ⟨en, S, cc, env, k, r, hc, R, hq, po⟩ := h
  simp only [denS, Option.bind_eq_some_iff] at hq
  obtain ⟨⟨d, k1⟩, e1, e2⟩ := hq
  obtain ⟨S1, R1, s1⟩ := R.freeze (leakE c false ++ leakE ci true)
  generalize freeze env (leakE c false ++ leakE ci true) = env1 at e1 e2 R1
  split at e2
  case h_2 => cases e2
  case h_1 xs hi =>
  simp only [Option.bind_eq_some_iff] at e2
  obtain ⟨⟨d2, k2⟩, e3, e4⟩ := e2
  split at e4
  case h_2 => cases e4
  case h_1 j hj =>
  simp only at hj
  subst hj
  simp only [Option.bind_eq_some_iff, Option.map_eq_some_iff] at e4
  obtain ⟨at_, e5, env2, e6, rfl⟩ := e4
  obtain ⟨hil, rfl⟩ := envSet_some e6
  refine ⟨en, S1, cc, _, k, d, k1, R1, e1, fun v H1 sx ck hv => ?_⟩
  have R2 := R1.grow sx ck
  obtain ⟨a0, ws0, z1, _, _⟩ := own_at R2 hi
  refine ⟨.ref a0, z1, en, S1, cc, _, k1, .int j, k2, R2, e3, fun iv H2 sx2 ck2 hv2 => ?_⟩
  have R3 := R2.grow sx2 ck2
  obtain ⟨a, ws, y1, y2, y3⟩ := own_at R3 hi
  rw [z1] at y1
  cases y1
  have hiv : iv = .int j := VOk.rd hv2 |>.int
  have hl := da_len y3
  refine ⟨a0, ws, j, at_, rfl, hiv, y2, by rw [hl, ← ixD_eq]; exact e5, ?_⟩
  have dv : Dq X.K (hide S1 H2) v d := dq_mono (hs_same R2 sx2) _ _ hv.dq
  obtain ⟨R4, hh⟩ := R3.updOwn hi z1 (da_set dv at_ y3)
  refine po S1 cc σ _ hc (same_trans s1 (same_trans (hs_same R1 sx) (same_trans (hs_same R2 sx2) ?_))) R4
  rw [hh]
  exact fun _ _ z => z
theorem ty_list {a : Addr} {xs : List V} (h : H a = some (.lst xs)) : tyV K "list" (.ref a) H := .inl ⟨rfl, xs, SqL.of h⟩
theorem list_line {n : Nat} (h : lenOk (n + 1) = true) : n < sizeLine := Nat.lt_of_lt_of_le (Nat.lt_succ_self n) (line_ok (lenOk_le h))
theorem s_app {st : Stmt} (h : PS X st (tDrop (tBM X.K "list" rAppend (tVar i) (tCons (T Φ G X.K false c) tNil)))) : PS X st (TSt Φ G X.K mk n (.app i c)) := ps_imp h fun D σ H h => by
  obtain ⟨en, S, cc, env, k, r, hc, R, hq, po⟩ := h
  simp only [denS, Option.bind_eq_some_iff] at hq
  obtain ⟨⟨d, k1⟩, e1, e2⟩ := hq
  obtain ⟨S1, R1, s1⟩ := R.freeze (leakE c false)
  generalize freeze env (leakE c false) = env1 at e1 e2 R1
  split at e2
  case h_2 => cases e2
  case h_1 xs hi =>
  split at e2
  case isFalse => cases e2
  case isTrue hl =>
  simp only [Option.map_eq_some_iff] at e2
  obtain ⟨env2, e6, rfl⟩ := e2
  obtain ⟨hil, rfl⟩ := envSet_some e6
  obtain ⟨a, ws, z1, z2, z3⟩ := own_at R1 hi
  refine ⟨.ref a, z1, ty_list z2, en, S1, cc, _, k, d, k1, R1, e1, fun v H1 sx ck hv => ?_⟩
  have R2 := R1.grow sx ck
  obtain ⟨a', ws', y1, y2, y3⟩ := own_at R2 hi
  rw [z1] at y1
  cases y1
  refine ⟨a, ws', v, rfl, rfl, y2, by rw [da_len y3]; exact list_line hl, ?_⟩
  obtain ⟨R4, hh⟩ := R2.updOwn hi z1 (da_app y3 (.cons hv.dq .nil))
  refine po S1 cc σ _ hc (same_trans s1 (same_trans (hs_same R1 sx) ?_)) R4
  rw [hh]
  exact fun _ _ z => z
theorem da_last {vs : List V} {ds : List PyData} {d : PyData} (h : DqAll K H vs ds) (e : ds.getLast? = some d) : ∃ v, vs[vs.length - 1]? = some v ∧ Dq K H v d := by
  rw [List.getLast?_eq_getElem?, ← da_len h] at e
  obtain ⟨v, h1, h2⟩ := da_get h e
  exact ⟨v, h1, h2⟩
theorem s_popE {st : Stmt} (h : PS X st (tDrop (tBM0 X.K "list" rPop (tVar i)))) : PS X st (TSt Φ G X.K mk n (.popE i)) := ps_imp h fun D σ H h => by
  obtain ⟨en, S, cc, env, k, r, hc, R, hq, po⟩ := h
  simp only [denS] at hq
  split at hq
  case h_2 => cases hq
  case h_1 xs hi =>
  split at hq
  case isTrue => cases hq
  case isFalse hne =>
  simp only [Option.map_eq_some_iff] at hq
  obtain ⟨env2, e6, rfl⟩ := hq
  obtain ⟨hil, rfl⟩ := envSet_some e6
  obtain ⟨a, ws, z1, z2, z3⟩ := own_at R hi
  have hlast : ∃ d, xs.getLast? = some d := by
    cases xs with
    | nil => simp at hne
    | cons y ys => exact ⟨_, List.getLast?_cons ..⟩
  obtain ⟨d, hd⟩ := hlast
  obtain ⟨v, g1, g2⟩ := da_last z3 hd
  refine ⟨.ref a, z1, ty_list z2, a, ws, v, rfl, rfl, z2, g1, ?_⟩
  obtain ⟨R4, hh⟩ := R.updOwn hi z1 (da_dropLast z3)
  refine po S cc σ _ hc ?_ R4
  rw [hh]
  exact fun _ _ z => z
theorem s_popT {st : Stmt} {p : PatL} (h : PS X st (tAsg (tBM0 X.K "list" rPop (tVar i)) (TGp X.K (.tup p)))) : PS X st (TSt Φ G X.K mk n (.popT p i)) := ps_imp h fun D σ H h => by
  obtain ⟨en, S, cc, env, k, r, hc, R, hq, po⟩ := h
  simp only [denS] at hq
  split at hq
  case h_2 => cases hq
  case h_1 xs hi =>
  split at hq
  case h_2 => cases hq
  case h_1 ds hlast =>
  simp only [Option.bind_eq_some_iff, Option.map_eq_some_iff] at hq
  obtain ⟨env2, e6, env3, e7, rfl⟩ := hq
  obtain ⟨hil, rfl⟩ := envSet_some e6
  obtain ⟨a, ws, z1, z2, z3⟩ := own_at R hi
  obtain ⟨v, g1, g2⟩ := da_last z3 hlast
  obtain ⟨R4, hh⟩ := R.updOwn hi z1 (da_dropLast z3)
  refine ⟨.ref a, z1, ty_list z2, a, ws, v, rfl, rfl, z2, g1, en, S, cc, _, k, .tuple ds, env3, R4, by rw [hh]; exact g2, by simpa only [bindP] using e7, fun σ' R5 _ => ?_⟩
  refine po S cc σ' _ hc ?_ R5
  rw [hh]
  exact fun _ _ z => z
theorem s_popA {st : Stmt} {j : Nat} (h : PS X st (tDrop (tBM X.K "list" rAppend (tVar i) (tCons (tBM X.K "list" rPopAt (tVar j) (tCons (T Φ G X.K true ci) tNil)) tNil)))) : PS X st (TSt Φ G X.K mk n (.popA i j ci)) := ps_imp h fun D σ H h => by
  obtain ⟨en, S, cc, env, k, r, hc, R, hq, po⟩ := h
  simp only [denS] at hq
  obtain ⟨S1, R1, s1⟩ := R.freeze (leakE ci true)
  generalize freeze env (leakE ci true) = env1 at hq R1
  split at hq
  case isTrue => cases hq
  case isFalse hij =>
  split at hq
  case h_2 => cases hq
  case h_1 xs hj =>
  simp only [Option.bind_eq_some_iff] at hq
  obtain ⟨⟨d2, k2⟩, e3, e4⟩ := hq
  split at e4
  case h_2 => cases e4
  case h_1 q hqd =>
  simp only at hqd
  subst hqd
  split at e4
  case isFalse => cases e4
  case isTrue hrng =>
  simp only [Option.bind_eq_some_iff] at e4
  obtain ⟨at_, e5, e6⟩ := e4
  split at e6
  case h_2 => cases e6
  case h_1 y hy =>
  split at e6
  case h_2 => cases e6
  case h_1 ys hi =>
  split at e6
  case isFalse => cases e6
  case isTrue hl =>
  simp only [Option.bind_eq_some_iff, Option.map_eq_some_iff] at e6
  obtain ⟨env2, e7, env3, e8, rfl⟩ := e6
  obtain ⟨_, rfl⟩ := envSet_some e7
  obtain ⟨_, rfl⟩ := envSet_some e8
  obtain ⟨a, ws, z1, z2, z3⟩ := own_at R1 hi
  obtain ⟨b, us, w1, w2, w3⟩ := own_at R1 hj
  refine ⟨.ref a, z1, ty_list z2, .ref b, w1, ty_list w2, en, S1, cc, _, k, .int q, k2, R1, e3, fun iv H1 sx ck hv => ?_⟩
  have R2 := R1.grow sx ck
  obtain ⟨a', ws', y1, y2, y3⟩ := own_at R2 hi
  rw [z1] at y1
  cases y1
  obtain ⟨b', us', u1, u2, u3⟩ := own_at R2 hj
  rw [w1] at u1
  cases u1
  have hiv : iv = .int q := VOk.rd hv |>.int
  have hlen := da_len u3
  obtain ⟨q1, q2⟩ := rngOk_le hrng
  obtain ⟨sq1, sq2, sq3, sq4⟩ := ixN_seq (show ixN us'.length q = some at_ by rw [hlen, ← ixD_eq]; exact e5)
  obtain ⟨vy, vy1, vy2⟩ := da_get u3 hy
  refine ⟨b, us', q, at_, vy, rfl, by rw [hiv], u2, by omega, by omega, sq1, vy1, ?_⟩
  obtain ⟨R3, h3⟩ := R2.updOwn hj w1 (da_erase at_ u3)
  have hi3 : (env1.set j (.dat true (.list (xs.eraseIdx at_))))[i]? = some (.dat true (.list ys)) := by
    rw [List.getElem?_set_ne (fun z => hij z.symm)]; exact hi
  obtain ⟨a'', ws'', v1, v2, v3⟩ := own_at R3 hi3
  rw [z1] at v1
  cases v1
  refine ⟨a, ws'', vy, rfl, rfl, v2, by rw [da_len v3]; exact list_line hl, ?_⟩
  obtain ⟨R4, h4⟩ := R3.updOwn hi3 z1 (da_app v3 (.cons (by rw [h3]; exact vy2) .nil))
  refine po S1 cc σ _ hc (same_trans s1 (same_trans (hs_same R1 sx) ?_)) R4
  rw [h4, h3]
  exact fun _ _ z => z

/-! ### the cask -/
theorem SR.newCask (R : SR K en S cc env k σ H) (hn : en.cc = none) (e : SameX none H H') {p : Addr} (hp : H p = none) (hk : H' p = some (.lst (encK k'))) (ha : env.all (fun s => match s with | .csk => false | _ => true) = true) :
    SR K en (p :: S) (some p) env k' σ H' ∧ Same (hide S H) (hide (p :: S) H') := by
  have ec : SameX cc H H' := fun b o _ z => e b o (fun w => nomatch w) z
  have ck : CkOk cc k H' := fun c z => e c _ (fun w => nomatch w) (R.ckk c z)
  obtain ⟨R1, F, s1⟩ := R.hideGrown ec ck hp hk
  refine ⟨⟨R1.same, R1.sub, R1.s0, R1.trk, fun c z => ?_, fun c z => (by rw [hn] at z; cases z), R1.len, fun i s h => ?_, R1.inj⟩, s1⟩
  · cases z
    exact ⟨List.mem_cons_self .., hk, .inr F.en⟩
  · have so := R1.slots i s h
    cases s with
    | un => trivial
    | csk =>
      have := List.all_eq_true.mp ha _ (List.mem_of_getElem? h)
      cases this
    | scr ns =>
      obtain ⟨a, h1, h2, h3⟩ := so
      refine ⟨a, h1, h2, h3.imp (fun ⟨_, z⟩ => ⟨fun w => ?_, z⟩) fun z => z⟩
      cases w
      exact z F.en
    | dat o d =>
      cases o with
      | false => exact so
      | true =>
        obtain ⟨a, xs, ds, h1, h2, h3, h4, h5, h6, h7⟩ := so
        refine ⟨a, xs, ds, h1, h2, h3, h4, h5, h6, fun w => ?_⟩
        cases w
        exact F.own i _ h h1
theorem s_cask {st : Stmt} {f s m : Nat} {a : CA} (hmk : mk = true) (hlen : ∀ as k r, Φ f as k = some r → as.length = m)
    (h : PS X st (tAsg (tCall (spM X.K m (Φ f)) [] E0 (tCons (tVar s) (TAs Φ G X.K false a))) (gName i))) : PS X st (TSt Φ G X.K mk n (.cask i f s a)) := ps_imp h fun D σ H h => by
  obtain ⟨en, S, cc, env, k, r, hc, R, hq, po⟩ := h
  simp only [denS] at hq
  obtain ⟨S1, R1, s1⟩ := R.freeze (leakA a false)
  generalize freeze env (leakA a false) = env1 at hq R1
  split at hq
  case h_2 => cases hq
  case h_1 ns hs =>
  simp only [Option.bind_eq_some_iff] at hq
  obtain ⟨⟨ds, k1⟩, e1, e2⟩ := hq
  split at e2
  case isFalse => cases e2
  case isTrue hall =>
  simp only [Option.bind_eq_some_iff, Option.map_eq_some_iff] at e2
  obtain ⟨⟨d, k2⟩, e3, env2, e4, rfl⟩ := e2
  obtain ⟨hil, rfl⟩ := envSet_some e4
  obtain ⟨b, b1, b2, b3⟩ := R1.slots s _ hs
  refine ⟨.ref b, b1, en, S1, cc, _, k, ds, k1, R1, e1, fun vs H1 sx ck hv => ?_⟩
  have hv' : DqAll X.K (hide S1 H1) vs ds := hv
  have R2 := R1.grow sx ck
  obtain ⟨b', c1, c2, c3⟩ := R2.slots s _ hs
  rw [b1] at c1
  cases c1
  have hn : en.cc = none := by
    unfold CcOk at hc
    rw [hmk] at hc
    exact hc
  refine ⟨S1, .scr ns :: ds.map (Sl.dat false), k1, d, k2, ?_, R2.trk, ?_, e3, fun p H2 sx2 hp hk => ?_⟩
  · have q1 := hlen _ _ _ e3
    rw [List.length_cons, List.length_map] at q1
    rw [List.append_nil, List.length_cons, da_len hv', q1]
  · rw [List.append_nil]
    exact .cons ⟨b, rfl, c2, .inl (fun w => nomatch w)⟩ (args_of hv')
  · obtain ⟨R3, s3⟩ := R2.newCask hn sx2 hp hk hall
    have R4 : SR X.K en (p :: S1) (some p) (env1.set i .csk) k2 (σ.set i (some (.ref p))) H2 := R3.put (fun _ => ⟨p, rfl, rfl⟩) fun _ z => nomatch z
    refine po (p :: S1) (some p) _ H2 ?_ (same_trans s1 (same_trans (hs_same R1 sx) s3)) R4
    unfold CcOk
    rw [hmk]
    exact hn
/-! ### the cask's cells -/
theorem ck_set {k k2 : KS} {v : Int} {j : Nat} (h : ckSet k v j = some k2) : (encK k).set j (.int v) = encK k2 ∧ j < 3 := by
  match j, h with
  | 0, h => cases h; exact ⟨rfl, by omega⟩
  | 1, h => cases h; exact ⟨rfl, by omega⟩
  | 2, h => cases h; exact ⟨rfl, by omega⟩
theorem ck_ixN {k : KS} {j : Nat} (h : j < 3) : ixN (encK k).length (j : Nat) = some j := by
  unfold ixN
  have e : (encK k).length = 3 := rfl
  rw [e, if_pos (by omega), if_pos (by omega)]
  rfl
/-- the cask is written -/
theorem SR.ckWrite (R : SR K en S cc env k σ H) {a : Addr} (hc : cc = some a) (k2 : KS) : SR K en S cc env k2 σ (upd H a (.lst (encK k2))) ∧ hide S (upd H a (.lst (encK k2))) = hide S H := by
  refine ⟨R.grow (fun b o z e => ?_) (fun b z => ?_), hide_upd_in (R.ckS a hc)⟩
  · rw [upd_ne (fun w => z (by rw [hc, w]))]
    exact e
  · rw [hc] at z
    cases z
    exact upd_same
theorem s_ckS {st : Stmt} {s j : Nat} (h : PS X st (tAsg (T Φ G X.K false c) (gSub (tVar s) (tC (.int (j : Nat))) rSetL))) : PS X st (TSt Φ G X.K mk n (.ckS s j c)) := ps_imp h fun D σ H h => by
  obtain ⟨en, S, cc, env, k, r, hc, R, hq, po⟩ := h
  simp only [denS, Option.bind_eq_some_iff] at hq
  obtain ⟨⟨d, k1⟩, e1, e2⟩ := hq
  obtain ⟨S1, R1, s1⟩ := R.freeze (leakE c false)
  generalize freeze env (leakE c false) = env1 at e1 e2 R1
  split at e2
  case h_2 => cases e2
  case h_1 hs =>
  split at e2
  case h_2 => cases e2
  case h_1 v hv =>
  simp only at hv
  subst hv
  simp only [Option.map_eq_some_iff] at e2
  obtain ⟨k2, e3, rfl⟩ := e2
  refine ⟨en, S1, cc, _, k, .int v, k1, R1, e1, fun x H1 sx ck hx => ?_⟩
  have R2 := R1.grow sx ck
  obtain ⟨a, z1, z2⟩ := R2.slots s _ hs
  obtain ⟨q1, q2⟩ := ck_set e3
  have hxv : x = .int v := VOk.rd hx |>.int
  refine ⟨.ref a, z1, a, encK k1, (j : Nat), j, rfl, rfl, R2.ckk a z2, ck_ixN q2, ?_⟩
  obtain ⟨R3, hh⟩ := R2.ckWrite z2 k2
  rw [hxv, q1]
  refine po S1 cc σ _ hc (same_trans s1 (same_trans (hs_same R1 sx) ?_)) R3
  rw [hh]
  exact fun _ _ z => z
theorem s_ckD {st : Stmt} {s : Nat} {r : List V → Hp → VK → Prop} (hr : r = fun xs H Q => ∃ i j, xs = [V.int i, V.int j] ∧ CDivP i j ∧ ∀ p, H p = none → Q (.ref p) (upd H p (.tup [.int (i / j), .int (i % j)])))
    (h : PS X st (tAsg (tCB r (tCons (T Φ G X.K true (.ck s 0)) (tCons (T Φ G X.K true c) tNil))) (gTup X.K 2 (gCons (gSub (tVar s) (tC (.int 0)) rSetL) (gCons (gName i) gNil))))) : PS X st (TSt Φ G X.K mk n (.ckD s i c)) := ps_imp h fun D σ H h0 => by
  subst hr
  obtain ⟨en, S, cc, env, k, r, hc, R, hq, po⟩ := h0
  simp only [denS] at hq
  obtain ⟨S1, R1, s1⟩ := R.freeze (leakE c true)
  generalize freeze env (leakE c true) = env1 at hq R1
  split at hq
  case h_2 => cases hq
  case h_1 hs =>
  simp only [Option.bind_eq_some_iff] at hq
  obtain ⟨⟨d, k1⟩, e1, e2⟩ := hq
  split at e2
  case h_2 => cases e2
  case h_1 t ht =>
  simp only at ht
  subst ht
  split at e2
  case isFalse => cases e2
  case isTrue hcond =>
  simp only [Bool.and_eq_true, decide_eq_true_eq] at hcond
  obtain ⟨⟨⟨⟨c1, c2⟩, c3⟩, c4⟩, c5⟩ := hcond
  simp only [Option.map_eq_some_iff] at e2
  obtain ⟨env2, e3, rfl⟩ := e2
  obtain ⟨hil, rfl⟩ := envSet_some e3
  refine ⟨en, S1, cc, env1, k, .int k.1, k, R1, by simp only [den, hs, ckAt, Option.map_some], fun x H1 sx ck hx => ?_⟩
  have R2 := R1.grow sx ck
  refine ⟨en, S1, cc, env1, k, .int t, k1, R2, e1, fun y H2 sx2 ck2 hy => ?_⟩
  have R3 := R2.grow sx2 ck2
  have hxi : x = .int k.1 := VOk.rd hx |>.int
  have hyi : y = .int t := VOk.rd hy |>.int
  refine ⟨k.1, t, by rw [hxi, hyi], ⟨c1, PyProof.noPylong_small (by omega)⟩, fun p hp => ?_⟩
  obtain ⟨a1, a2, a3, a4, a5⟩ := R3.alloc (o := .tup [.int (k.1 / t), .int (k.1 % t)]) hp
  have R4 := R3.grow a1 a2
  obtain ⟨a, z1, z2⟩ := R4.slots s _ hs
  refine ⟨p, _, rfl, SqT.of upd_same, rfl, .int (k.1 / t), [.int (k.1 % t)], rfl, .ref a, z1, a, encK k1, 0, 0, rfl, rfl, R4.ckk a z2, ck_ixN (j := 0) (by omega), .int (k.1 % t), [], rfl, rfl, ?_⟩
  have e5 : (encK k1).set 0 (.int (k.1 / t)) = encK (k1.1 / t, k1.2.1, k1.2.2) := by rw [c5]; rfl
  rw [e5]
  obtain ⟨R5, hh⟩ := R4.ckWrite z2 (k1.1 / t, k1.2.1, k1.2.2)
  have R6 := R5.putD (i := i) (d := .int (k1.1 % t)) (v := .int (k.1 % t)) (by rw [c5]; exact .int _)
  refine po S1 cc _ _ hc (same_trans s1 (same_trans (hs_same R1 sx) (same_trans (hs_same R2 sx2) (same_trans a4 ?_)))) R6
  rw [hh]
  exact fun _ _ z => z
end
end Dn
set_option Elab.async false
set_option linter.all false
set_option maxRecDepth 100000
/-! Dn20: the compiler keeps meanings: statements. -/
namespace Dn
open PySem PySem.Spec PyProof.Rows L2
theorem swap2 {env : Env} {x y : Str} {px py pt p2 : Pos} {kt k2 : Nat} {vs : List Expr} (hb : env.blockKind = .function) (kx : env.kindOf x = some .local) (ky : env.kindOf y = some .local) (hl : (py.line == px.line) = true) (hne : x ≠ y) (hv : vs.length = 2)
    (hst : (vs.any fun | .Starred .. => true | _ => false) = false) (hf : vs.all (foldedForSure 8) = false) (hcs : vs.all (constantsAlone 8) = false) :
    swappedStores [.Tuple [.Name x px, .Name y py] kt pt] (.Tuple vs k2 p2) env = pure (some [x, y]) := by
  unfold swappedStores
  have e1 : (env.blockKind != ScopeKind.function) = false := by rw [hb]; rfl
  have e2 : ([x, y] : List Str).eraseDups.length = 2 := by
    have : (y == x) = false := beq_eq_false_iff_ne.mpr fun z => hne z.symm
    simp [List.eraseDups_cons, this]
  simp only [List.length_cons, List.length_nil, hv, e1, hf, hcs]
  generalize hN : List.filterMap _ _ = names
  have hN2 : names = [x, y] := by rw [← hN]; simp [kx, ky, show py.line = px.line from eq_of_beq hl, Expr.pos]
  subst hN2
  rw [if_neg (by decide)]
  split
  · rename_i z
    exact Bool.noConfusion (hst.symm.trans z)
  rw [if_neg (by rw [e2]; simp)]
  rfl
theorem swap3 {env : Env} {x y z : Str} {px py pz pt p2 : Pos} {kt k2 : Nat} {vs : List Expr} (hb : env.blockKind = .function) (kx : env.kindOf x = some .local) (ky : env.kindOf y = some .local) (kz : env.kindOf z = some .local) (hl : (py.line == px.line) = true) (hl2 : (pz.line == px.line) = true)
    (hne : x ≠ y) (hne2 : x ≠ z) (hne3 : y ≠ z) (hv : vs.length = 3)
    (hst : (vs.any fun | .Starred .. => true | _ => false) = false) (hf : vs.all (foldedForSure 8) = false) (hcs : vs.all (constantsAlone 8) = false) :
    swappedStores [.Tuple [.Name x px, .Name y py, .Name z pz] kt pt] (.Tuple vs k2 p2) env = pure (some [x, y, z]) := by
  unfold swappedStores
  have e1 : (env.blockKind != ScopeKind.function) = false := by rw [hb]; rfl
  have e2 : ([x, y, z] : List Str).eraseDups.length = 3 := by
    have h1 : (y == x) = false := beq_eq_false_iff_ne.mpr fun z => hne z.symm
    have h2 : (z == x) = false := beq_eq_false_iff_ne.mpr fun z => hne2 z.symm
    have h3 : (z == y) = false := beq_eq_false_iff_ne.mpr fun z => hne3 z.symm
    simp [List.eraseDups_cons, h1, h2, h3]
  simp only [List.length_cons, List.length_nil, hv, e1, hf, hcs]
  generalize hN : List.filterMap _ _ = names
  have hN2 : names = [x, y, z] := by rw [← hN]; simp [kx, ky, kz, show py.line = px.line from eq_of_beq hl, show pz.line = px.line from eq_of_beq hl2, Expr.pos]
  subst hN2
  rw [if_neg (by decide)]
  split
  · rename_i z
    exact Bool.noConfusion (hst.symm.trans z)
  rw [if_neg (by rw [e2]; simp)]
  rfl
theorem fm_lt {α β : Type} (f : α → Option β) : ∀ (l : List α), (∃ a ∈ l, f a = none) → (l.filterMap f).length < l.length
  | [], ⟨_, h, _⟩ => nomatch h
  | a :: r, ⟨b, h, e⟩ => by
    rw [List.filterMap_cons]
    rcases List.mem_cons.mp h with rfl | h
    · rw [e]
      exact Nat.lt_succ_of_le (List.length_filterMap_le ..)
    · have := fm_lt f r ⟨b, h, e⟩
      cases f a with
      | none => exact Nat.lt_succ_of_lt this
      | some _ => simpa using this
theorem noswap {Γ : Ctx} {env : Env} {ts vs : List Expr} {kt k2 : Nat} {pt p2 : Pos} (h : noSwap Γ ts vs = true) (hc : ∀ x, Γ.sc.names.lookup x = some .cell → env.kindOf x = some .cell) : swappedStores [.Tuple ts kt pt] (.Tuple vs k2 p2) env = pure none := by
  unfold swappedStores
  simp only []
  split
  · rfl
  rename_i c1
  split
  · rfl
  split
  · rfl
  rename_i c3
  split
  · rfl
  rename_i c4
  exfalso
  unfold noSwap at h
  simp only [Bool.or_eq_true] at h
  rcases h with ((h | h) | h) | h
  · apply c1
    simp only [Bool.or_eq_true]
    exact .inl (.inl h)
  · apply c1
    simp only [Bool.or_eq_true]
    exact .inl (.inr h)
  · obtain ⟨t, ht, h⟩ := List.any_eq_true.mp h
    apply c3
    rw [Bool.or_eq_true]
    refine .inl ?_
    rw [bne_iff_ne]
    refine Nat.ne_of_lt (fm_lt _ ts ⟨t, ht, ?_⟩)
    cases t with
    | Name x p =>
      have hx := hc x (of_decide_eq_true h)
      simp [hx]
    | Tuple a b c => rfl
    | _ => cases h
  · exact c4 h

section
variable {X : Cx} {Γ : Ctx} {Φ : Phi} {G : Glo} {mk : Bool} {pos : Pos}
structure WS (X : Cx) (Γ : Ctx) (Φ : Phi) (G : Glo) (mk : Bool) : Prop where
  wf : Wf X Γ Φ G
  kind : X.env.scope.kind = .function
  own : PassesOwn (model X.prog X.w) X.A X.env X.xe
  mkOk : ∀ f id, Γ.mks.lookup f = some id → mk = true
theorem to_ok (W : Wf X Γ Φ G) : ∀ n es c, cmpA Γ n es = some c → PA X es (TO Φ G X.K c)
  | 0, es, c, h => by simp [cmpA] at h
  | n + 1, es, c, h => by
    unfold cmpA at h
    split at h
    all_goals (rename_i e1; cases e1)
    · cases h
      exact to_nil
    · obtain ⟨c1, h1, h2⟩ := opt_bind h
      obtain ⟨r, h3, rfl⟩ := opt_map h2
      have E := (cmp_ok n X Γ W).1 _ _ h1
      exact to_cons (E.pe false) (to_ok W n _ _ h3) (star_cons E.st)
def gNames (is : List Nat) : TGs := fun vs σ H Q => vs.length = is.length ∧ Q (putL σ is vs) H
theorem names_cons {t : Expr} {ts : List Expr} {is : List Nat} (h : locNames Γ (t :: ts) = some is) : ∃ x p i js, t = .Name x p ∧ (Γ.sc.names.lookup x = some .local ∨ Γ.sc.names.lookup x = some .cell) ∧ Γ.loc x = some i ∧ locNames Γ ts = some js ∧ is = i :: js := by
  unfold locNames at h
  split at h
  · cases ‹t :: ts = []›
  · rename_i x p r e
    cases e
    split at h
    · rename_i hl
      obtain ⟨i, h1, h2⟩ := opt_bind h
      obtain ⟨js, h3, rfl⟩ := opt_map h2
      exact ⟨_, _, i, js, rfl, hl, h1, h3, rfl⟩
    · cases h
  · cases h
theorem loc_of (W : Wf X Γ Φ G) {x : Str} (h : Γ.sc.names.lookup x = some .local ∨ Γ.sc.names.lookup x = some .cell) : Loc X.env.scope x ∧ (X.fn x = true ∨ X.env.scope.names.lookup x = some .local) := by
  rcases h with h | h
  · exact ⟨.inl (W.loc0 x h), .inr (W.loc0 x h)⟩
  · exact ⟨.inr (W.cel0 x h), .inl (W.fn x h)⟩
theorem pgs_names (W : Wf X Γ Φ G) : ∀ {ts : List Expr} {is : List Nat}, locNames Γ ts = some is → PGs X ts (gNames is) ∧ (∀ e ∈ ts, notStar e = true) ∧ ts.length = is.length
  | [], is, h => by
    simp only [locNames, Option.some.injEq] at h
    subst h
    exact ⟨pgs_imp pgs_nil fun vs σ H Q h => ⟨List.eq_nil_of_length_eq_zero h.1, by
      have e : vs = [] := List.eq_nil_of_length_eq_zero h.1
      subst e
      exact h.2⟩, fun _ z => (nomatch z), rfl⟩
  | t :: ts, is, h => by
    obtain ⟨x, p, i, js, rfl, hl, h1, h2, rfl⟩ := names_cons h
    obtain ⟨g1, g2, g3⟩ := pgs_names W h2
    obtain ⟨v1, _, _, _⟩ := W.vis h1
    obtain ⟨l1, l2⟩ := loc_of W hl
    refine ⟨pgs_imp (pgs_cons (pg_name W.nd v1 l1 l2) g1 (assign_cons rfl)) fun vs σ H Q h => ?_, cons_st rfl g2, by simp [g3]⟩
    cases vs with
    | nil => cases h.1
    | cons v vs => exact ⟨v, vs, rfl, by simpa using h.1, h.2⟩
theorem nodup_cons {x : Str} {p : Pos} {ts : List Expr} (h : (nodupNames (.Name x p :: ts)).isSome = true) : (nodupNames ts).isSome = true ∧ ∀ y q, .Name y q ∈ ts → x ≠ y := by
  unfold nodupNames at h
  cases e : nodupNames ts with
  | none => rw [e] at h; cases h
  | some xs =>
    rw [e] at h
    simp only [Option.bind_some] at h
    split at h
    · cases h
    · rename_i hx
      refine ⟨rfl, fun y q hy z => hx ?_⟩
      subst z
      have mem : ∀ (l : List Expr) (ys : List Str), nodupNames l = some ys → .Name x q ∈ l → x ∈ ys := by
        intro l
        induction l with
        | nil => intro ys _ h; cases h
        | cons a r ih =>
          intro ys h1 h2
          unfold nodupNames at h1
          split at h1
          · cases ‹a :: r = []›
          · rename_i x' p' r' e
            cases e
            obtain ⟨zs, h3, h4⟩ := opt_bind h1
            split at h4
            · cases h4
            · cases h4
              rcases List.mem_cons.mp h2 with e | h2
              · cases e; exact List.mem_cons_self ..
              · exact List.mem_cons_of_mem _ (ih zs h3 h2)
          · cases h1
      exact mem ts xs e hy
theorem ne_ix (W : Wf X Γ Φ G) {x y : Str} {i j : Nat} (h1 : Γ.loc x = some i) (h2 : Γ.loc y = some j) (hne : x ≠ y) : i ≠ j := fun e => by
  subst e
  have a := (W.vis h1).1
  rw [(W.vis h2).1] at a
  exact hne (Option.some.inj a).symm
theorem len2 {α : Type} {l : List α} (h : l.length = 2) : ∃ a b, l = [a, b] := by
  match l, h with
  | [a, b], _ => exact ⟨a, b, rfl⟩
theorem len3 {α : Type} {l : List α} (h : l.length = 3) : ∃ a b c, l = [a, b, c] := by
  match l, h with
  | [a, b, c], _ => exact ⟨a, b, c, rfl⟩
theorem par_ok (W : WS X Γ Φ G mk) {m : Nat} {ts vs : List Expr} {is : List Nat} {ca : CA} {kt k2 : Nat} {pt p2 : Pos} (h1 : locNames Γ ts = some is) (hnd : (nodupNames ts).isSome = true) (hl : is.length = vs.length) (hv : vs.length ≤ 200)
    (hsw : swapsT Γ ts vs = true ∨ noSwap Γ ts vs = true) (ha : PA X vs (TO Φ G X.K ca)) : PS X (.Assign [.Tuple ts kt pt] (.Tuple vs k2 p2) pos) (TSt Φ G X.K mk m (.par is ca)) := by
  obtain ⟨g1, g2, g3⟩ := pgs_names W.wf h1
  rcases hsw with hsw | hsw
  · unfold swapsT at hsw
    simp only [Bool.and_eq_true, Bool.or_eq_true, Bool.not_eq_true'] at hsw
    obtain ⟨⟨⟨⟨⟨⟨⟨q1, q2⟩, q3⟩, q4⟩, q5⟩, q6⟩, q7⟩, q8⟩ := hsw
    have hb : X.env.blockKind = .function := by unfold Env.blockKind; rw [W.kind]; rfl
    rcases q1 with q1 | q1
    · obtain ⟨t1, t2, rfl⟩ := len2 (eq_of_beq q1)
      obtain ⟨v1, v2, rfl⟩ := len2 ((eq_of_beq q2).trans (eq_of_beq q1))
      obtain ⟨x, px, i, js, rfl, _, a1, a2, rfl⟩ := names_cons h1
      obtain ⟨y, py, j, js2, rfl, _, b1, b2, rfl⟩ := names_cons a2
      cases (show some [] = some js2 from b2)
      have lx : Γ.sc.names.lookup x = some .local := by simp [allLocal] at q3; exact q3.1
      have ly : Γ.sc.names.lookup y = some .local := by simp [allLocal] at q3; exact q3.2
      have kx := W.wf.loc0 _ lx
      have ky := W.wf.loc0 _ ly
      have hne : x ≠ y := (nodup_cons hnd).2 y py (List.mem_cons_self ..)
      have hline : (py.line == px.line) = true := by simpa [sameLine] using q5
      refine s_par (ps_par (ta := TO Φ G X.K ca) W.wf.calm W.wf.nd (W.wf.vis a1).1 (W.wf.vis b1).1 (ne_ix W.wf a1 b1 hne) kx ky ha (swap2 hb kx ky hline hne rfl q8 q6 q7)) fun D σ H h => to_mono h fun vs H1 h => ?_
      obtain ⟨v, w, rfl⟩ := len2 h.1
      exact ⟨v, w, rfl, h.2 H1 (SameX.refl _ _)⟩
    · obtain ⟨t1, t2, t3, rfl⟩ := len3 (eq_of_beq q1)
      obtain ⟨v1, v2, v3, rfl⟩ := len3 ((eq_of_beq q2).trans (eq_of_beq q1))
      obtain ⟨x, px, i, js, rfl, _, a1, a2, rfl⟩ := names_cons h1
      obtain ⟨y, py, j, js2, rfl, _, b1, b2, rfl⟩ := names_cons a2
      obtain ⟨z, pz, l, js3, rfl, _, c1, c2, rfl⟩ := names_cons b2
      cases (show some [] = some js3 from c2)
      have lx : Γ.sc.names.lookup x = some .local := by simp [allLocal] at q3; exact q3.1
      have ly : Γ.sc.names.lookup y = some .local := by simp [allLocal] at q3; exact q3.2.1
      have lz : Γ.sc.names.lookup z = some .local := by simp [allLocal] at q3; exact q3.2.2
      have kx := W.wf.loc0 _ lx
      have ky := W.wf.loc0 _ ly
      have kz := W.wf.loc0 _ lz
      have hne : x ≠ y := (nodup_cons hnd).2 y py (List.mem_cons_self ..)
      have hne2 : x ≠ z := (nodup_cons hnd).2 z pz (List.mem_cons_of_mem _ (List.mem_cons_self ..))
      have hne3 : y ≠ z := (nodup_cons (nodup_cons hnd).1).2 z pz (List.mem_cons_self ..)
      have hline : (py.line == px.line) = true ∧ (pz.line == px.line) = true := by simpa [sameLine] using q5
      refine s_par (ps_par3 (ta := TO Φ G X.K ca) W.wf.calm W.wf.nd (W.wf.vis a1).1 (W.wf.vis b1).1 (W.wf.vis c1).1 (ne_ix W.wf a1 b1 hne) (ne_ix W.wf a1 c1 hne2) (ne_ix W.wf b1 c1 hne3) kx ky kz ha (swap3 hb kx ky kz hline.1 hline.2 hne hne2 hne3 rfl q8 q6 q7)) fun D σ H h => to_mono h fun vs H1 h => ?_
      obtain ⟨u, v, w, rfl⟩ := len3 h.1
      exact ⟨u, v, w, rfl, h.2 H1 (SameX.refl _ _)⟩
  · refine s_par (ps_asg (pe_tup ha) (pg_tup (n := ts.length) W.wf.calm g1 (assign_len _ _) (assign_star _ _ g2)) rfl (noswap hsw W.wf.cel0)) fun D σ H h => to_mono h fun vs H1 h => ?_
    refine ⟨line_ok (by rw [h.1, hl]; omega), fun p hp => ?_⟩
    exact ⟨p, vs, rfl, SqT.of upd_same, by rw [h.1, g3], h.1, h.2 _ (SameX.upd hp)⟩
/-- a comprehension's pieces -/
theorem lc_pieces (W : Wf X Γ Φ G) {n : Nat} {elt : Expr} {gs : List Comprehension} {scope : Scope} {c : CE} (h : cmpE Γ n (.ListComp elt gs scope pos) = some c) :
    ∃ tg iter ifs it p ce cc, gs = [⟨tg, iter, ifs, 0⟩] ∧ c = .comp p (patVars p) it cc ce ∧ IOk X Φ G tg iter it ∧ BlkOk X.N X.env.scope scope (ownOf Γ (patVars p)) ∧ (ownOf Γ (patVars p)).map (·.2) = patVars p ∧
      (∀ (s : Shared) (H : Hp) (C : Addr) (cl : List (Str × Addr)) (fp : List Addr), PG (X.blk s H scope (compEnvC scope cl C X.env) fp) tg (TGp X.K p)) ∧
      (∀ (s : Shared) (H : Hp) (C : Addr) (cl : List (Str × Addr)) (fp : List Addr), PTs (X.blk s H scope (compEnvC scope cl C X.env) fp) ifs (TB Φ G X.K cc)) ∧
      (∀ (s : Shared) (H : Hp) (C : Addr) (cl : List (Str × Addr)) (fp : List Addr), PE (X.blk s H scope (compEnvC scope cl C X.env) fp) elt (T Φ G X.K false ce)) := by
  cases n with
  | zero => simp [cmpE] at h
  | succ n =>
    have ih := cmp_ok (Φ := Φ) (G := G) n
    unfold cmpE at h
    split at h
    all_goals (first | (rename_i e1; cases e1; done) | skip)
    case h_29 m0 elt' tg iter ifs scope' pos' hn he =>
      cases hn
      cases he
      obtain ⟨it, h1, h2⟩ := opt_bind h
      obtain ⟨p, h3, h4⟩ := opt_bind h2
      obtain ⟨ce, h5, h6⟩ := opt_bind h4
      obtain ⟨cc, h7, h8⟩ := opt_bind h6
      split at h8
      · rename_i hb
        cases h8
        obtain ⟨b1, b2⟩ := W.blkOk hb
        have I := (ih X Γ W).2.2 _ _ _ h1
        refine ⟨tg, iter, ifs, it, p, ce, cc, rfl, rfl, I, b1, b2, (fun s H C cl fp => (pat_ok (W.blk s H scope C cl fp) n).1 _ _ h3 |>.1), (fun s H C cl fp => ?_), (fun s H C cl fp => ((ih _ _ (W.blk s H scope C cl fp)).1 _ _ h5).pe false)⟩
        split at h7
        · cases h7
          exact tb_yes
        · exact pts_one ((ih _ _ (W.blk s H scope C cl fp)).1 _ _ h7).pt
        · cases h7
      · cases h8
    all_goals (first | (rename_i h1 h2; cases h2; done) | (cases h; done))
end
end Dn
set_option Elab.async false
set_option linter.all false
set_option maxRecDepth 100000
/-! Dn21: the compiler keeps meanings: all statements. -/
namespace Dn
open PySem PySem.Spec PyProof.Rows L2
section
variable {X : Cx} {Γ : Ctx} {Φ : Phi} {G : Glo} {mk : Bool} {pos : Pos}
theorem sw_not {e : Expr} {t : Option Expr} {l : Nat} {env : Env} (h : ∀ a b c d, e ≠ .ListComp a b c d) (h2 : ∀ a b c d, e ≠ .SetComp a b c d) (h3 : ∀ a b c d f, e ≠ .DictComp a b c d f) : swapsWith e t l env = pure false := by
  cases e <;> first | rfl | exact absurd rfl (h _ _ _ _) | exact absurd rfl (h2 _ _ _ _) | exact absurd rfl (h3 _ _ _ _ _)
theorem sw_tup {ts : List Expr} {kt : Nat} {pt : Pos} {e : Expr} {l : Nat} {env : Env} : swapsWithSole [.Tuple ts kt pt] e l env = pure false := by cases e <;> rfl
theorem sw_sub {a b e : Expr} {pt : Pos} {l : Nat} {env : Env} : swapsWithSole [.Subscript a b pt] e l env = pure false := by cases e <;> rfl
theorem asg_sub {o i : Expr} {p : Pos} {env : Env} (h : ∀ a b c d, i ≠ .Slice a b c d) (v : Value) : assign (.Subscript o i p) env v = (do
      let ov ← holding [v] (eval o env)
      let iv ← holding [v, ov] (eval i env)
      standAt p
      holding [v, ov, iv] (setItem ov iv v)
      release [v, ov, iv] []) := by
  cases i <;> first | rfl | exact absurd rfl (h _ _ _ _)
theorem not_slice {Γ : Ctx} {n : Nat} {e : Expr} {c : CE} (h : cmpE Γ n e = some c) : ∀ a b c d, e ≠ .Slice a b c d := fun a b c d z => by
  subst z
  cases n <;> simp [cmpE] at h
theorem not_setcomp {n : Nat} {e : Expr} {c : CE} (h : cmpE Γ n e = some c) : (∀ a b c d, e ≠ .SetComp a b c d) ∧ (∀ a b c d f, e ≠ .DictComp a b c d f) := by
  cases n with
  | zero => simp [cmpE] at h
  | succ n =>
    refine ⟨fun a b c d z => ?_, fun a b c d f z => ?_⟩
    · subst z; simp [cmpE] at h
    · subst z; simp [cmpE] at h
theorem asg_ok (W : WS X Γ Φ G mk) {n m i : Nat} {x : Str} {px : Pos} {e : Expr} {c : CE} (hl : Γ.sc.names.lookup x = some .local ∨ Γ.sc.names.lookup x = some .cell) (hi : Γ.loc x = some i) (he : cmpE Γ n e = some c) :
    PS X (.Assign [.Name x px] e pos) (TSt Φ G X.K mk m (.asg i c)) := by
  have E := ((cmp_ok n X Γ W.wf).1 _ _ he)
  obtain ⟨v1, _, _, _⟩ := W.wf.vis hi
  obtain ⟨l1, l2⟩ := loc_of W.wf hl
  obtain ⟨q2, q3⟩ := not_setcomp he
  by_cases hlc : ∃ elt gs scope p, e = .ListComp elt gs scope p
  · obtain ⟨elt, gs, scope, p, rfl⟩ := hlc
    by_cases hb : (X.env.blockKind == .function && X.env.kindOf x == some .local && px.line == p.line && !(scope.names.any fun (n, k) => n == x && (k == .local || k == .cell))) = true
    · have hsw : swapsWith (.ListComp elt gs scope p) (some (.Name x px)) pos.line X.env = pure true := by
        show pure (X.env.blockKind == .function && X.env.kindOf x == some .local && px.line == p.line && !(scope.names.any fun (n, k) => n == x && (k == .local || k == .cell))) = _
        rw [hb]
      obtain ⟨tg, iter, ifs, it, pp, ce, cc, rfl, rfl, I, b1, b2, g1, g2, g3⟩ := lc_pieces W.wf he
      have hloc : X.env.scope.names.lookup x = some .local := by
        simp only [Bool.and_eq_true] at hb
        exact eq_of_beq hb.1.1.2
      refine s_asg (ps_imp (ps_setLc W.wf.calm W.wf.nd v1 hloc hsw I.pi b1 (g := TGp X.K pp) (tt := TB Φ G X.K cc) (te := T Φ G X.K false ce) g1 g2 g3 I.fo) fun D σ H h => ?_)
      rw [b2]
      exact comp_read h
    · have hsw : swapsWith (.ListComp elt gs scope p) (some (.Name x px)) pos.line X.env = pure false := by
        show pure (X.env.blockKind == .function && X.env.kindOf x == some .local && px.line == p.line && !(scope.names.any fun (n, k) => n == x && (k == .local || k == .cell))) = _
        rw [Bool.not_eq_true] at hb
        rw [hb]
      exact s_asg (ps_set W.wf.nd v1 l1 (E.pe false) hsw l2)
  · exact s_asg (ps_set W.wf.nd v1 l1 (E.pe false) (sw_not (fun a b c d z => hlc ⟨a, b, c, d, z⟩) q2 q3) l2)
theorem loc_case {x : Str} {i : Nat} (h : (match Γ.sc.names.lookup x with | some .local | some .cell => Γ.loc x | _ => none) = some i) : (Γ.sc.names.lookup x = some .local ∨ Γ.sc.names.lookup x = some .cell) ∧ Γ.loc x = some i := by
  split at h
  · rename_i q; exact ⟨.inl q, h⟩
  · rename_i q; exact ⟨.inr q, h⟩
  · cases h
theorem unp_ok (W : WS X Γ Φ G mk) {n m : Nat} {ts : List Expr} {kt : Nat} {pt : Pos} {e : Expr} {c : CE} {p : PatL} (hp : cmpPatL Γ n ts = some p) (he : PE X e (T Φ G X.K false c)) (hw : swappedStores [.Tuple ts kt pt] e X.env = pure none) :
    PS X (.Assign [.Tuple ts kt pt] e pos) (TSt Φ G X.K mk m (.unp p c)) := by
  obtain ⟨g1, g2, g3⟩ := (pat_ok W.wf n).2 _ _ hp
  exact s_unp (ps_asg he (tg_tup W.wf.calm g1 g2 fun ds env env' z => by rw [bindPL_ln z, g3]) sw_tup hw)
theorem nosw_tuple {ts : List Expr} {kt : Nat} {pt : Pos} {e : Expr} {env : Env} (h : ∀ a b c, e ≠ .Tuple a b c) : swappedStores [.Tuple ts kt pt] e env = pure none := by
  cases e <;> first | rfl | exact absurd rfl (h _ _ _)
theorem caskCell_split {x : Str} {ix : Expr} {j : Nat} (h : caskCell x ix = some j) : ∃ q pp, ix = .Constant (.int (j : Nat)) q pp := by
  unfold caskCell at h
  split at h
  · split at h
    · rename_i hc
      simp only [Bool.and_eq_true, decide_eq_true_eq] at hc
      cases h
      exact ⟨_, _, by rw [Int.toNat_of_nonneg hc.1.2]⟩
    · cases h
  · cases h
theorem ckD_ok (W : WS X Γ Φ G mk) {n m s i : Nat} {ts : List Expr} {kt : Nat} {pt : Pos} {e b : Expr} {cb : CE} (h : divC Γ ts e = some (s, i, b)) (hb : EOk X Φ G b cb) : PS X (.Assign [.Tuple ts kt pt] e pos) (TSt Φ G X.K mk m (.ckD s i cb)) := by
  unfold divC at h
  split at h
  · rename_i x p1 q1 p2 p3 y p4 f p5 x2 p6 q2 p7 p8 b p9
    split at h
    · rename_i hc
      simp only [Bool.and_eq_true, decide_eq_true_eq] at hc
      obtain ⟨⟨⟨⟨⟨rfl, rfl⟩, rfl⟩, hg⟩, hfi⟩, hy⟩ := hc
      obtain ⟨s', h1, h2⟩ := opt_bind h
      obtain ⟨i', h3, h4⟩ := opt_map h2
      cases h4
      obtain ⟨g1, g2⟩ := W.wf.gl hg
      obtain ⟨v1, _, _, _⟩ := W.wf.vis h3
      obtain ⟨l1, l2⟩ := loc_of W.wf (.inl hy)
      refine s_ckD (r := _) rfl (ps_asg (pe_callB call_divmodW g1 (W.wf.divm) (by decide +kernel) (pa_cons (t_ck (j := 0) (cask_local W.wf h1)) (pa_cons (hb.pe true) pa_nil (star_cons hb.st)) (star_cons rfl)) (by decide) (by decide) (star_cons rfl) (star_any fun z hz => by rw [List.mem_singleton.mp hz]; exact hb.st))
        (pg_tup W.wf.calm (pgs_cons (pg_sub (cask_local W.wf h1) pe_int set_list) (pgs_cons (pg_name W.wf.nd v1 l1 l2) pgs_nil))) sw_tup (nosw_tuple fun _ _ _ => nofun))
    · cases h
  · cases h
theorem cmpS_ok (W : WS X Γ Φ G mk) (m : Nat) : ∀ n : Nat, (∀ s c, cmpS Γ n s = some c → PS X s (TSt Φ G X.K mk m c)) ∧ (∀ s c, cmpS' Γ n s = some c → PS X s (TSt Φ G X.K mk m c)) ∧ (∀ ss c, cmpSs Γ n ss = some c → PSs X ss (TSts Φ G X.K mk m c))
  | 0 => ⟨fun s c h => by simp [cmpS] at h, fun s c h => by simp [cmpS'] at h, fun s c h => by simp [cmpSs] at h⟩
  | n + 1 => by
    obtain ⟨ih1, ih2, ih3⟩ := cmpS_ok W m n
    obtain ⟨ihE, ihA, ihI⟩ := cmp_ok (Φ := Φ) (G := G) n X Γ W.wf
    refine ⟨fun s c h => ?_, fun s c h => ?_, fun ss c h => ?_⟩
    · unfold cmpS at h
      split at h
      all_goals first | (cases h; done) | (rename_i e1; cases e1)
      case h_2 => cases h; exact s_retN
      case h_3 =>
        obtain ⟨ce, h1, rfl⟩ := opt_map h
        exact s_ret ((ihE _ _ h1).pe false)
      case h_4 => cases h; exact s_pass
      case h_5 => cases h; exact s_break
      case h_6 => cases h; exact s_cont
      case h_7 => cases h; exact s_stuck
      case h_8 =>
        obtain ⟨cc, h1, h2⟩ := opt_bind h
        obtain ⟨ca, h3, h4⟩ := opt_bind h2
        obtain ⟨cb, h5, rfl⟩ := opt_map h4
        exact s_if (ihE _ _ h1).pt (ih3 _ _ h3) (ih3 _ _ h5)
      case h_9 =>
        obtain ⟨cc, h1, h2⟩ := opt_bind h
        obtain ⟨ca, h3, rfl⟩ := opt_map h2
        exact s_while W.own (ihE _ _ h1).pt (ih3 _ _ h3)
      case h_10 =>
        obtain ⟨ci, h1, h2⟩ := opt_bind h
        obtain ⟨p, h3, h4⟩ := opt_bind h2
        obtain ⟨cb, h5, rfl⟩ := opt_map h4
        have I := ihI _ _ _ h1
        exact s_for W.own W.wf.calm I.pi ((pat_ok W.wf n).1 _ _ h3).1 (ih3 _ _ h5) I.fo
      case h_11 m0 x px f pf y py es cp sp =>
        obtain ⟨i, h1, h2⟩ := opt_bind h
        obtain ⟨hl, hi⟩ := loc_case h1
        split at h2
        · rename_i id hid
          split at h2
          · rename_i hcond
            simp only [Bool.and_eq_true, decide_eq_true_eq] at hcond
            obtain ⟨s, h3, h4⟩ := opt_bind h2
            obtain ⟨ca, h5, rfl⟩ := opt_map h4
            have A := ihA _ _ h5
            obtain ⟨⟨k, fa, fd, ps, F, hr, hm, hk, hb, hlen⟩, gd⟩ := W.wf.makes _ _ hid
            obtain ⟨g1, g2⟩ := W.wf.gl hcond.1.1
            obtain ⟨v1, _, _, _⟩ := W.wf.vis hi
            obtain ⟨l1, l2⟩ := loc_of W.wf hl
            exact s_cask (W.mkOk _ _ hid) hlen (ps_set W.wf.nd v1 l1 (pe_callG F gd hr g1 hm hk hb (pa_cons (cask_local W.wf h3) (A.pa false) (star_cons rfl)) g2 (star_cons rfl) (star_any A.st)) rfl l2)
          · cases h2
        · cases h2
    · unfold cmpS' at h
      split at h
      · rename_i c0 h0
        cases h
        exact ih1 _ _ h0
      · split at h
        case h_10 => cases h
        case h_1 ts kt pt x px mm ap cp sp _ =>
          split at h
          · rename_i hc
            obtain ⟨hm, hl⟩ := Bool.and_eq_true_iff.mp hc
            obtain rfl := of_decide_eq_true hm
            obtain ⟨i, h1, h2⟩ := opt_bind h
            obtain ⟨p, h3, rfl⟩ := opt_map h2
            obtain ⟨g1, g2, g3⟩ := (pat_ok W.wf n).2 _ _ h3
            exact s_popT (ps_asg (pe_bm0 PySem.F.plainAttrs_list PySem.F.slot_list_pop PySem.F.type_list_pop mt_pop (cask_local W.wf h1) rfl hl) (tg_tup W.wf.calm g1 g2 fun ds env env' z => by rw [bindPL_ln z, g3]) rfl rfl)
          · cases h
        case h_2 ts kt pt vs k2 p2 sp _ =>
          split at h
          · rename_i hv
            split at h
            · rename_i is his
              split at h
              · rename_i hc
                simp only [Bool.and_eq_true, Bool.or_eq_true] at hc
                obtain ⟨ca, h3, rfl⟩ := opt_map h
                exact par_ok W his hc.1.1 (eq_of_beq hc.1.2) hv hc.2 (to_ok W.wf _ _ _ h3)
              · cases h
            · split at h
              · rename_i hns
                obtain ⟨p, h1, h2⟩ := opt_bind h
                obtain ⟨ca, h3, rfl⟩ := opt_map h2
                have A := ihA _ _ h3
                exact unp_ok W h1 (t_tup (A.pa false) (by rw [A.ln]; omega)) (noswap hns W.wf.cel0)
              · cases h
          · cases h
        case h_3 ts kt pt e sp hn1 hn2 _ =>
          split at h
          · rename_i s0 i0 b0 hd
            obtain ⟨cb, h3, rfl⟩ := opt_map h
            exact ckD_ok (n := n) W hd (ihE _ _ h3)
          obtain ⟨p, h1, h2⟩ := opt_bind h
          obtain ⟨ce, h3, rfl⟩ := opt_map h2
          exact unp_ok W h1 ((ihE _ _ h3).pe false) (nosw_tuple fun a b c z => hn2 a b c z)
        case h_4 x px ix tp e sp _ =>
          split at h
          · rename_i j hj
            obtain ⟨q, pp, rfl⟩ := caskCell_split hj
            obtain ⟨s0, h1, h2⟩ := opt_bind h
            obtain ⟨ce, h5, rfl⟩ := opt_map h2
            exact s_ckS (ps_asg ((ihE _ _ h5).pe false) (pg_sub (cask_local W.wf h1) pe_int set_list) sw_sub rfl)
          obtain ⟨i, h1, h2⟩ := opt_bind h
          obtain ⟨ci, h3, h4⟩ := opt_bind h2
          obtain ⟨ce, h5, rfl⟩ := opt_map h4
          exact s_setI (ps_asg ((ihE _ _ h5).pe false) (pg_sub (cask_local W.wf h1) ((ihE _ _ h3).pe true) set_list (asg_sub (not_slice h3))) sw_sub rfl)
        case h_5 x px e sp =>
          obtain ⟨i, h1, h2⟩ := opt_bind h
          obtain ⟨ce, h3, rfl⟩ := opt_map h2
          obtain ⟨hl, hi⟩ := loc_case h1
          exact asg_ok W hl hi h3
        case h_6 y py m2 ap2 x px mm ap ix cp cp2 sp _ =>
          split at h
          · rename_i hc
            simp only [Bool.and_eq_true, decide_eq_true_eq] at hc
            obtain ⟨⟨⟨rfl, rfl⟩, hl1⟩, hl2⟩ := hc
            obtain ⟨i, h1, h2⟩ := opt_bind h
            obtain ⟨j, h3, h4⟩ := opt_bind h2
            obtain ⟨ci, h5, rfl⟩ := opt_map h4
            have E := ihE _ _ h5
            have inner := pe_bm (apos := ap) (cpos := cp) PySem.F.plainAttrs_list PySem.F.slot_list_pop PySem.F.type_list_pop mt_popAt (cask_local (py := px) W.wf h3) (pa_cons (E.pe true) pa_nil (star_cons E.st)) rfl (by rw [star_cons E.st]; rfl) hl1 (star_cons E.st) rfl
            exact s_popA (ps_expr (pe_bm PySem.F.plainAttrs_list PySem.F.slot_list_append PySem.F.type_list_append mt_append (cask_local W.wf h1) (pa_cons inner pa_nil (star_cons rfl)) rfl (by rw [star_cons rfl]; rfl) hl2 (star_cons rfl) rfl) rfl)
          · cases h
        case h_7 x px mm ap e cp sp _ _ =>
          split at h
          · rename_i hc
            simp only [Bool.and_eq_true, decide_eq_true_eq] at hc
            obtain ⟨rfl, hl1⟩ := hc
            obtain ⟨i, h1, h2⟩ := opt_bind h
            obtain ⟨ce, h3, rfl⟩ := opt_map h2
            have E := ihE _ _ h3
            exact s_app (ps_expr (pe_bm PySem.F.plainAttrs_list PySem.F.slot_list_append PySem.F.type_list_append mt_append (cask_local W.wf h1) (pa_cons (E.pe false) pa_nil (star_cons E.st)) rfl (by rw [star_cons E.st]; rfl) hl1 (star_cons E.st) rfl) rfl)
          · cases h
        case h_8 x px mm ap cp sp _ =>
          split at h
          · rename_i hc
            simp only [Bool.and_eq_true, decide_eq_true_eq] at hc
            obtain ⟨rfl, hl1⟩ := hc
            obtain ⟨i, h1, rfl⟩ := opt_map h
            exact s_popE (ps_expr (pe_bm0 PySem.F.plainAttrs_list PySem.F.slot_list_pop PySem.F.type_list_pop mt_pop (cask_local W.wf h1) rfl hl1) rfl)
          · cases h
        case h_9 =>
          obtain ⟨ce, h3, rfl⟩ := opt_map h
          exact s_exc ((ihE _ _ h3).pe false) rfl
    · unfold cmpSs at h
      split at h
      all_goals first | (cases h; done) | (rename_i e1; cases e1)
      · cases h
        exact ss_nil
      · obtain ⟨c1, h1, h2⟩ := opt_bind h
        obtain ⟨cr, h3, rfl⟩ := opt_map h2
        exact ss_cons (ih2 _ _ h1) (ih3 _ _ h3)
end
end Dn
set_option Elab.async false
set_option linter.all false
set_option maxRecDepth 100000
/-! Dn22: defs. -/
namespace Dn
open PySem PySem.Spec PyProof.Rows L2
theorem zip_lookup {α : Type} : ∀ (ps : List Str) (us : List α), us.length = ps.length → ∀ n ∈ ps, ∃ u, (ps.zip us).lookup n = some u
  | [], _, _, n, h => nomatch h
  | p :: ps, u :: us, hl, n, h => by
    rw [List.zip_cons_cons, List.lookup_cons]
    by_cases e : (n == p) = true
    · simp only [e]; exact ⟨u, rfl⟩
    · simp only [Bool.not_eq_true] at e
      simp only [e]
      refine zip_lookup ps us (by simpa using hl) n ?_
      rcases List.mem_cons.mp h with rfl | h
      · simp at e
      · exact h
theorem fm_zip {α : Type} : ∀ (ps : List Str) (us : List α), us.length = ps.length → ps.Nodup → (ps.filterMap fun n => ((ps.zip us).lookup n).map (n, ·)) = ps.zip us
  | [], _, _, _ => rfl
  | p :: ps, u :: us, hl, nd => by
    obtain ⟨n1, n2⟩ := List.nodup_cons.mp nd
    rw [List.filterMap_cons, List.zip_cons_cons, List.lookup_cons, beq_self_eq_true]
    show (p, u) :: _ = _
    congr 1
    have fc : ∀ (l : List Str), (∀ n ∈ l, n ≠ p) → (l.filterMap fun n => (List.lookup n ((p, u) :: ps.zip us)).map (n, ·)) = l.filterMap fun n => ((ps.zip us).lookup n).map (n, ·) := by
      intro l
      induction l with
      | nil => intro _; rfl
      | cons a r ih =>
        intro h
        have e : (a == p) = false := beq_eq_false_iff_ne.mpr (h a (List.mem_cons_self ..))
        rw [List.filterMap_cons, List.filterMap_cons, ih fun n hn => h n (List.mem_cons_of_mem _ hn), List.lookup_cons, e]
    rw [fc ps fun n hn z => n1 (by rw [← z]; exact hn)]
    exact fm_zip ps us (by simpa using hl) n2
def plainArgs (as : List Arg) : Arguments := { posonlyargs := [], args := as, vararg := none, kwonlyargs := [], kw_defaults := [], kwarg := none, defaults := [] }
theorem bind_plain {fd : FuncData} {as : List Arg} {us : List Value} (hp : fd.params = plainArgs as) (hd : fd.defaults = .none) (hl : us.length = as.length) (nd : (as.map (·.arg)).Nodup) : bindArgs fd ⟨us, []⟩ = pure ((as.map (·.arg)).zip us) := by
  unfold bindArgs
  have hm : (List.filter (fun n => (((as.map (·.arg)).zip us).lookup n).isNone) (as.map (·.arg))) = [] := by
    refine List.filter_eq_nil_iff.mpr fun n hn => ?_
    obtain ⟨u, hu⟩ := zip_lookup (as.map (·.arg)) us (by simpa using hl) n hn
    rw [hu]
    simp
  have e0 : seqItems? fd.defaults = pure none := by rw [hd]; rfl
  simp only [hp, plainArgs, e0]
  simp only [List.forIn_nil, pure_bind, List.map_nil, List.nil_append, List.append_nil, Option.getD_none, List.length_nil, Nat.zero_sub, List.drop_zero, Nat.sub_zero, List.length_map, hl, Nat.lt_irrefl, decide_false, Bool.false_and, Bool.false_eq_true, if_false, Array.toList_empty, List.drop_nil]
  have ht : (List.map (fun x => x.arg) as).take as.length = List.map (fun x => x.arg) as := List.take_of_length_le (by simp)
  rw [ht, hm]
  simp only [List.isEmpty_nil, Bool.not_true, Bool.false_eq_true, if_false, List.zip_nil_right, List.forIn_nil, pure_bind]
  rw [fm_zip _ _ (by simpa using hl) nd]

/-- THE RULE of a def, where no repr is under way -/
theorem fnG_of {P : Program} {w : World} {K : PySem.W.Frag} {mg : Str → Option Value} {base : Heap} {k : Nat} {f : Addr} {name qual : Str} {params : Arguments} {body : List Stmt} {scope : Scope} {dV kV doc pm cdv ct oc : Value} {an od : Option Addr}
    {osl : Array (Option Value)} {N ps : List Str} {sp : Sp} (lk : K.lookup f = some ⟨oc, od, .func (PySem.W.fnOf name qual params body scope dV kV doc pm an cdv ct), osl⟩) (hcd : PySem.W.codeIn K cdv qual = true) (S : FnScope N ps scope)
    (len : ∀ vs H Q E, sp vs H Q E → vs.length = ps.length)
    (hbody : ∀ (A : Around) (outer : List Env) (s : Shared) (H : Hp) (vs : List V) (Q : VK), A.guards = some [] → Room k (A.deeper (envOfC qual scope s.heap.objs.size f cdv)) → sp vs H Q E0 →
      ∃ t, PSs (cxOf CX0 P w K mg base N qual scope f cdv A outer s H E0) body t ∧ t { nx := fun _ H' => Q .non H', rt := Q } (L2.start N vs) H) :
    FnG P w K mg base (k + 1) f (PySem.W.fnOf name qual params body scope dV kV doc pm an cdv ct) ps sp := by
  refine ⟨len, fun A outer s H args us vs Q hg hr e0 hb r hsp => ?_⟩
  have hl := len _ _ _ _ hsp
  have KX : K.In s.heap := e0.mod.kin.keeps fun b o e => (e0.bs b o e).1
  have lim : s.heap.NoLimit := e0.mod.nolimit.keeps fun b o e => (e0.bs b o e).1
  have hkind : ∀ y ∈ ps.zip us, scope.names.lookup y.1 = some .local ∨ (scope.names.lookup y.1 = some .cell ∧ ((cellsFrom (s.heap.objs.size + 1) scope.names []).lookup y.1).isSome = true) := fun ⟨n, v⟩ hy => by
    rcases S.par n (List.of_mem_zip hy).1 with q | q
    · exact .inl q
    · exact .inr ⟨q, PySem.W.cellsFrom_some _ _ _ (.inl q)⟩
  refine codeAny_call_function hr.depth (KX _ _ lk) rfl S.co S.gen rfl (PySem.W.codeRec_of KX hcd) (hb _ _ _ _ ?_)
  refine wpAny_newFunctionEnv_cells S.kind hkind fun env he s1 x => ?_
  subst he
  refine ⟨lim.keeps x.toInCall.keep, codeAny_func ?_⟩
  obtain ⟨t, ht, hq⟩ := hbody A outer s H vs Q hg (hr.deeper _) hsp
  have I : Inv (cxOf CX0 P w K mg base N qual scope f cdv A outer s H E0) [] (L2.start N vs) H s1 := inv_start S hr.hd e0 hl r x
  refine wpAny_mono (ht.run [] s1 (L2.start N vs) H _ I hq) (fun fl s' hs => ?_) fun e s' hs => hs
  have fin : ∀ {σ' : St} {H' : Hp} {v : V} {u : Value}, Inv (cxOf CX0 P w K mg base N qual scope f cdv A outer s H E0) [] σ' H' s' → RelV v u → Q v H' → L2.CE outer P w H s Q u s' :=
    fun {σ' H' v u} J rv q => ⟨v, H', J.os, J.bare, J.base, J.hok, rv, q⟩
  cases fl with
  | ret u =>
    obtain ⟨v, σ', H', J, rv, q⟩ := hs
    exact fin J rv q
  | next =>
    obtain ⟨σ', H', J, q⟩ := hs
    exact fin (v := V.non) (u := Value.none) J rfl q
  | brk =>
    obtain ⟨_, _, _, q⟩ := hs
    exact False.elim q
  | cont =>
    obtain ⟨_, _, _, q⟩ := hs
    exact False.elim q

/-- no argument is a list of the frame's own -/
def plainSl : Sl → Bool
  | .dat o _ => !o
  | .un => false
  | _ => true
/-! ### a def as data -/
structure Dfn where
  name : Str
  args : Arguments
  body : List Stmt
  scope : Scope
  N : List Str
  code : CSs
def Dfn.ps (d : Dfn) : List Str := d.args.args.map (·.arg)
def Dfn.fn (d : Dfn) : Fn := ⟨d.N.length, d.ps.length, d.code⟩
def nodupB : List Str → Bool
  | [] => true
  | x :: r => !(r.any fun y => decide (y = x)) && nodupB r
theorem nodupB_ok : ∀ {l : List Str}, nodupB l = true → l.Nodup
  | [], _ => List.nodup_nil
  | x :: r, h => by
    unfold nodupB at h
    obtain ⟨h1, h2⟩ := Bool.and_eq_true_iff.mp h
    refine List.nodup_cons.mpr ⟨fun m => ?_, nodupB_ok h2⟩
    have : (r.any fun y => decide (y = x)) = true := List.any_eq_true.mpr ⟨x, m, by simp⟩
    rw [this] at h1
    cases h1
def scopeB (N ps : List Str) (sc : Scope) : Bool := decide (sc.kind = .function) && !sc.isCoroutine && !sc.isGenerator && nodupB N && decide (N.take ps.length = ps) &&
  (ps.all fun x => decide (sc.names.lookup x = some .local) || decide (sc.names.lookup x = some .cell)) && sc.names.all fun y => !decide (y.2 = .free)
theorem scopeB_ok {N ps : List Str} {sc : Scope} (h : scopeB N ps sc = true) : FnScope N ps sc := by
  unfold scopeB at h
  simp only [Bool.and_eq_true, decide_eq_true_eq, Bool.not_eq_true', List.all_eq_true, Bool.or_eq_true, decide_eq_false_iff_not] at h
  obtain ⟨⟨⟨⟨⟨⟨h1, h2⟩, h3⟩, h4⟩, h5⟩, h6⟩, h7⟩ := h
  exact ⟨h1, h2, h3, nodupB_ok h4, h5, h6, h7⟩
def argsB (a : Arguments) : Bool := a.posonlyargs.isEmpty && a.vararg.isNone && a.kwonlyargs.isEmpty && a.kw_defaults.isEmpty && a.kwarg.isNone && a.defaults.isEmpty
theorem argsB_ok {a : Arguments} (h : argsB a = true) : a = plainArgs a.args := by
  unfold argsB at h
  simp only [Bool.and_eq_true] at h
  obtain ⟨⟨⟨⟨⟨h1, h2⟩, h3⟩, h4⟩, h5⟩, h6⟩ := h
  obtain ⟨p, as, v, ko, kd, kw, df⟩ := a
  simp only at h1 h2 h3 h4 h5 h6
  cases v with
  | some _ => cases h2
  | none =>
    cases kw with
    | some _ => cases h5
    | none =>
      cases p with
      | cons _ _ => cases h1
      | nil =>
        cases ko with
        | cons _ _ => cases h3
        | nil =>
          cases kd with
          | cons _ _ => cases h4
          | nil =>
            cases df with
            | cons _ _ => cases h6
            | nil => rfl
/-- the names of the defs, of the constants -/
structure Tab where
  fids : List (Str × Nat)
  gids : List (Str × Nat)
def Dfn.ctx (d : Dfn) (t : Tab) (mks : List (Str × Nat)) : Ctx := ⟨d.scope, d.N, t.fids, t.gids, mks⟩
/-- what is checked of a def's text -/
def Dfn.shape (d : Dfn) : Bool := scopeB d.N d.ps d.scope && argsB d.args
section
variable (m : Nat) (G : Glo) (T : Nat → Option Fn)
/-- what the defs of a table compute, calls nested l deep at most -/
def phi : Nat → Phi
  | 0 => fun _ _ _ => none
  | l + 1 => fun id as k => match T id with
    | some f => if as.all plainSl then runFn (phi l) G m f as k else none
    | none => none
end
/-- what the head tells of one def -/
structure DefAt (K : PySem.W.Frag) (mg : Str → Option Value) (d : Dfn) (f : Addr) (fd : FuncData) : Prop where
  fun_ : ∃ qual, FunD K d.name qual d.args d.body d.scope [] [] f fd
  mg_ : mg d.name = some (.ref f)
/-- what is fixed through the run -/
structure Wb (P : Program) (K : PySem.W.Frag) (mg : Str → Option Value) (base : Heap) (G : Glo) (t : Tab) : Prop where
  seer : base.NoSeer
  tree : P.given.tree = none
  frees : ∀ x ∈ bltNames, mg x = none
  gcd : mg "gcd" = some (.builtin "math.gcd")
  glos : ∀ x g, t.gids.lookup x = some g → ∃ v u d, G g = some d ∧ mg x = some u ∧ RelV v u ∧ ∀ H, Dq K H v d
theorem fnOf_params {name qual : Str} {params : Arguments} {body : List Stmt} {scope : Scope} {dV kV doc pm cdv ct : Value} {an : Option Addr} : (PySem.W.fnOf name qual params body scope dV kV doc pm an cdv ct).params = params ∧ (PySem.W.fnOf name qual params body scope dV kV doc pm an cdv ct).defaults = dV := ⟨rfl, rfl⟩
theorem DefAt.binds {K : PySem.W.Frag} {mg : Str → Option Value} {d : Dfn} {f : Addr} {fd : FuncData} (D : DefAt K mg d f fd) (hs : d.shape = true) : Binds K fd d.ps [] := by
  obtain ⟨⟨qual, F⟩, _⟩ := D
  obtain ⟨s1, s2⟩ := Bool.and_eq_true_iff.mp hs
  refine F.bindsN fun kV doc pm an cdv ct us hl => ?_
  have nd : d.ps.Nodup := by
    have S := scopeB_ok s1
    rw [← S.pre]
    exact S.nd.sublist (List.take_sublist _ _)
  exact bind_plain (fnOf_params.1.trans (argsB_ok s2)) fnOf_params.2 (by rw [hl]; exact List.length_map ..) nd
section
variable {P : Program} {w : World} {K : PySem.W.Frag} {mg : Str → Option Value} {base : Heap} {G : Glo} {t : Tab} {T : Nat → Option Fn} {m : Nat}
/-- the context of a def's body is well formed -/
theorem wf_body (B : Wb P K mg base G t) {d : Dfn} {f : Addr} {qual : Str} {cdv : Value} {A : Around} {outer : List Env} {s : Shared} {H : Hp} {k : Nat} {Φ : Phi} {mks : List (Str × Nat)} (S : FnScope d.N d.ps d.scope) (hg : A.guards = some [])
    (hr : Room (k + 40) (A.deeper (envOfC qual d.scope s.heap.objs.size f cdv)))
    (calls : ∀ x id, t.fids.lookup x = some id → CallOk (cxOf CX0 P w K mg base d.N qual d.scope f cdv A outer s H E0) Φ id x)
    (makes : ∀ x id, mks.lookup x = some id → MakeOk (cxOf CX0 P w K mg base d.N qual d.scope f cdv A outer s H E0) Φ id x) :
    WS (cxOf CX0 P w K mg base d.N qual d.scope f cdv A outer s H E0) (d.ctx t mks) Φ G (!mks.isEmpty) where
  wf :=
    { loc0 := fun x e => e
      cel0 := fun x e => e
      fre0 := fun x e => .inr e
      glb0 := fun x e => e
      N := rfl
      nd := S.nd
      calm := rfl
      fn := fun x e => rfl
      calls := calls
      makes := makes
      glos := B.glos
      frees := B.frees
      gcd := B.gcd
      wx := ⟨B.seer, B.tree, ⟨_, _, rfl, S.gen, S.co, rfl, rfl⟩, by
        have h : (A.deeper (envOfC qual d.scope s.heap.objs.size f cdv)).depth + 3 * (k + 40) + 5 < recursionLimit := hr.dp
        have e : Builtin.pylongFrames = 100 := by decide
        show (A.deeper (envOfC qual d.scope s.heap.objs.size f cdv)).depth + Builtin.pylongFrames < recursionLimit
        omega⟩
      units := by
        have h : (A.deeper (envOfC qual d.scope s.heap.objs.size f cdv)).units + 16 * (k + 40) + 200 < cLine := hr.un
        show (A.deeper (envOfC qual d.scope s.heap.objs.size f cdv)).units + 64 < cLine
        omega
      guards := hg }
  kind := S.kind
  own := PassesOwn.leaving
  mkOk := fun f id e => by
    show (!mks.isEmpty) = true
    cases mks with
    | nil => cases e
    | cons _ _ => rfl

theorem start_len {N : List Str} {vs : List V} (h : vs.length ≤ N.length) : (L2.start N vs).length = N.length := by
  unfold L2.start
  rw [List.length_append, List.length_map, List.length_replicate]
  omega
theorem paired_len {α β : Type} {r : α → β → Prop} {xs : List α} {ys : List β} (h : Paired r xs ys) : xs.length = ys.length := by
  induction h with
  | nil => rfl
  | cons _ _ ih => simp [ih]
theorem paired_get {α β : Type} {r : α → β → Prop} {xs : List α} {ys : List β} (h : Paired r xs ys) : ∀ (i : Nat) (y : β), ys[i]? = some y → ∃ x, xs[i]? = some x ∧ r x y := by
  induction h with
  | nil => intro i y e; simp at e
  | cons h1 h2 ih =>
    intro i y e
    cases i with
    | zero => simp at e; subst e; exact ⟨_, rfl, h1⟩
    | succ i => simpa using ih i y (by simpa using e)
/-- a def's entry -/
theorem sr_start {N : List Str} {vs : List V} {as : List Sl} {S : List Addr} {cc : Option Addr} {H : Hp} {k : KS} (hN : vs.length ≤ N.length) (hp : as.all plainSl = true) (hS : ∀ a ∈ S, H a ≠ none) (hc : ∀ c, cc = some c → c ∈ S ∧ H c = some (.lst (encK k)))
    (ha : Paired (ArgOk K S cc H) vs as) : SR K ⟨cc, H, S⟩ S cc (as ++ List.replicate (N.length - as.length) .un) k (L2.start N vs) H := by
  have hl := paired_len ha
  have own : ∀ (i : Nat) (d : PyData), (as ++ List.replicate (N.length - as.length) Sl.un)[i]? ≠ some (.dat true d) := fun i d e => by
    rcases List.mem_append.mp (List.mem_of_getElem? e) with h | h
    · have := List.all_eq_true.mp hp _ h
      cases this
    · cases (List.mem_replicate.mp h).2
  refine ⟨SameX.refl _ _, fun a z => z, hS, hS, fun c z => ⟨(hc c z).1, (hc c z).2, .inl z⟩, fun c z => by rw [(hc c z).2]; simp, ?_, fun i s e => ?_, fun i j a d e h => absurd h (own i d)⟩
  · rw [start_len hN, List.length_append, List.length_replicate]
    omega
  · by_cases hi : i < as.length
    · rw [List.getElem?_append_left hi] at e
      obtain ⟨v, hv, ho⟩ := paired_get ha i s e
      have hs : (L2.start N vs)[i]? = some (some v) := by
        unfold L2.start
        rw [List.getElem?_append_left (by rw [List.length_map]; omega), List.getElem?_map, hv]; rfl
      rw [hs]
      cases s with
      | un => trivial
      | csk => obtain ⟨c, rfl, h2⟩ := ho; exact ⟨c, rfl, h2⟩
      | scr ns =>
        obtain ⟨a, rfl, h2, h3⟩ := ho
        refine ⟨a, rfl, h2, ?_⟩
        rcases h2 with (h2 | ⟨o, h2⟩) | h2
        · rcases h3 with h3 | h3
          · exact .inl ⟨h3, by show H a ≠ none; rw [h2]; simp⟩
          · exact .inr h3
        · rcases h3 with h3 | h3
          · exact .inl ⟨h3, by show H a ≠ none; rw [h2]; simp⟩
          · exact .inr h3
        · exact .inr fun H' => .inr h2
      | dat o d =>
        cases o with
        | false => exact ⟨v, rfl, ho⟩
        | true => exact absurd (by rw [List.getElem?_append_left hi]; exact e) (own i d)
    · rw [List.getElem?_append_right (by omega), List.getElem?_replicate] at e
      split at e
      · cases e; trivial
      · cases e
/-- one def, a level up -/
theorem fn_level (B : Wb P K mg base G t) {d : Dfn} {f : Addr} {fd : FuncData} (D : DefAt K mg d f fd) (hs : d.shape = true) {Φ : Phi} {l : Nat} {n : Nat}
    (hc : cmpSs (d.ctx t []) n d.body = some d.code) (φ : List Sl → KS → Option (PyData × KS)) (hφ : ∀ as k r, φ as k = some r → as.all plainSl = true ∧ runFn Φ G m d.fn as k = some r)
    (calls : ∀ x id, t.fids.lookup x = some id → ∃ (f : Addr) (fd : FuncData) (ps : List Str), FnG P w K mg base (40 + l) f fd ps (spD K ps.length (Φ id)) ∧ mg x = some (.ref f) ∧ PySem.W.keepIn K (.ref f) = true ∧ Binds K fd ps [] ∧ ∀ as k r, Φ id as k = some r → as.length = ps.length) :
    FnG P w K mg base (40 + l + 1) f fd d.ps (spD K d.ps.length φ) := by
  obtain ⟨⟨qual, F⟩, hm⟩ := D
  obtain ⟨s1, s2⟩ := Bool.and_eq_true_iff.mp hs
  have S := scopeB_ok s1
  obtain ⟨oc, od, dV, kV, doc, pm, an, cdv, ct, osl, rfl, lk, hcd, _, _⟩ := F.ex
  refine fnG_of lk hcd S spD_len fun A outer s H vs Q hg hr hsp => ?_
  have W := wf_body (t := t) (mks := []) (Φ := Φ) (k := l) B S hg (by rw [Nat.add_comm l 40]; exact hr) (H := H) (outer := outer) (fun x id e => by
    obtain ⟨f', fd', ps', F', m', k', b', l'⟩ := calls x id e
    exact ⟨⟨40 + l, f', fd', ps', F', hr, m', k', b', l'⟩, hg⟩) (fun x id e => by cases e)
  refine ⟨_, (cmpS_ok W m n).2.2 _ _ hc, ?_⟩
  obtain ⟨S0, cc, as, k, dd, k', hlen, hS, hck, ha, hr2, q⟩ := hsp
  obtain ⟨hpl, hrun⟩ := hφ _ _ _ hr2
  unfold runFn at hrun
  split at hrun
  case isFalse => cases hrun
  case isTrue hal =>
  simp only [Option.bind_eq_some_iff] at hrun
  obtain ⟨r, h1, h2⟩ := hrun
  have hN : vs.length ≤ d.N.length := by
    have := congrArg List.length S.pre
    rw [List.length_take] at this
    omega
  have R := sr_start (N := d.N) hN hpl hS hck ha
  have hrep : d.fn.slots - d.fn.pars = d.N.length - as.length := by rw [hal]; rfl
  rw [hrep] at h1
  refine ⟨⟨cc, H, S0⟩, S0, cc, _, k, r, rfl, R, h1, ?_⟩
  cases r with
  | rt d2 k2 fl => cases h2; exact fun v H' sx ck hv _ => q v H' sx ck hv
  | nx env2 k2 =>
    cases h2
    intro S' cc' σ' H' hc' _ R'
    refine q .non H' R'.same (fun c z => ?_) .non
    have e : cc' = cc := hc'
    subst e
    exact R'.ckk c z
  | bk _ _ => cases h2
  | ct _ _ => cases h2
end
end Dn
set_option Elab.async false
set_option linter.all false
set_option maxRecDepth 100000
/-! Dn23: all defs, level by level; a law's end. -/
namespace Dn
open PySem PySem.Spec PyProof.Rows L2
section
variable {P : Program} {w : World} {K : PySem.W.Frag} {mg : Str → Option Value} {base : Heap} {G : Glo} {t : Tab} {T : Nat → Option Fn} {m : Nat}
theorem DefAt.keep {d : Dfn} {f : Addr} {fd : FuncData} (D : DefAt K mg d f fd) : PySem.W.keepIn K (.ref f) = true := by
  obtain ⟨⟨_, F⟩, _⟩ := D
  exact F.kp
/-- what stands of every def that the table names -/
structure Known (K : PySem.W.Frag) (mg : Str → Option Value) (t : Tab) (T : Nat → Option Fn) : Prop where
  at_ : ∀ x id, t.fids.lookup x = some id → ∃ d f fd, T id = some d.fn ∧ d.name = x ∧ DefAt K mg d f fd ∧ d.shape = true ∧ ∃ n, cmpSs (d.ctx t []) n d.body = some d.code
theorem levels (B : Wb P K mg base G t) (Kn : Known K mg t T) :
    ∀ (l : Nat) (x : Str) (id : Nat), t.fids.lookup x = some id → ∃ (f : Addr) (fd : FuncData) (ps : List Str), FnG P w K mg base (40 + l) f fd ps (spD K ps.length (phi m G T l id)) ∧ mg x = some (.ref f) ∧ PySem.W.keepIn K (.ref f) = true ∧ Binds K fd ps [] ∧ ∀ as k r, phi m G T l id as k = some r → as.length = ps.length
  | 0, x, id, h => by
    obtain ⟨d, f, fd, h1, rfl, D, hs, _⟩ := Kn.at_ x id h
    refine ⟨f, fd, d.ps, ⟨spD_len, fun A outer s H args us vs Q hg hr e0 hb r hsp => ?_⟩, D.mg_, D.keep, D.binds hs, fun as k r z => nomatch z⟩
    obtain ⟨_, _, as, k, dd, k', _, _, _, _, z, _⟩ := hsp
    cases z
  | l + 1, x, id, h => by
    have ih := levels B Kn l
    obtain ⟨d, f, fd, h1, rfl, D, hs, n, hn⟩ := Kn.at_ x id h
    have e : ∀ as k r, phi m G T (l + 1) id as k = some r → as.all plainSl = true ∧ runFn (phi m G T l) G m d.fn as k = some r := fun as k r z => by
      simp only [phi, h1] at z
      split at z
      · rename_i q; exact ⟨q, z⟩
      · cases z
    refine ⟨f, fd, d.ps, fn_level B D hs hn _ e ih, D.mg_, D.keep, D.binds hs, fun as k r z => ?_⟩
    have q := (e as k r z).2
    unfold runFn at q
    split at q
    · rename_i q2; exact q2
    · cases q
/-- the def that makes the cask -/
theorem mk_level (B : Wb P K mg base G t) {d : Dfn} {f : Addr} {fd : FuncData} (D : DefAt K mg d f fd) (hs : d.shape = true) {l n : Nat} (Kn : Known K mg t T) (hc : cmpSs (d.ctx t []) n d.body = some d.code) :
    FnG P w K mg base (40 + l + 1) f fd d.ps (spM K d.ps.length fun as k => if as.all plainSl then runMk (phi m G T l) G m d.fn as k else none) := by
  have lv := levels (m := m) (w := w) B Kn l
  obtain ⟨⟨qual, F⟩, hm⟩ := D
  obtain ⟨s1, s2⟩ := Bool.and_eq_true_iff.mp hs
  have S := scopeB_ok s1
  obtain ⟨oc, od, dV, kV, doc, pm, an, cdv, ct, osl, rfl, lk, hcd, _, _⟩ := F.ex
  refine fnG_of lk hcd S (fun vs H Q E h => by obtain ⟨_, _, _, _, _, h, _⟩ := h; exact h) fun A outer s H vs Q hg hr hsp => ?_
  have W := wf_body (t := t) (mks := []) (Φ := phi m G T l) (k := l) B S hg (by rw [Nat.add_comm l 40]; exact hr) (H := H) (outer := outer) (fun x id e => by
    obtain ⟨f', fd', ps', F', m', k', b', l'⟩ := lv x id e
    exact ⟨⟨40 + l, f', fd', ps', F', hr, m', k', b', l'⟩, hg⟩) (fun x id e => by cases e)
  refine ⟨_, (cmpS_ok W m n).2.2 _ _ hc, ?_⟩
  obtain ⟨S0, as, k, dd, k', hlen, hS, ha, hr2, q⟩ := hsp
  simp only at hr2
  split at hr2
  case isFalse => cases hr2
  case isTrue hpl =>
  unfold runMk at hr2
  split at hr2
  case isFalse => cases hr2
  case isTrue hal =>
  simp only [Option.bind_eq_some_iff] at hr2
  obtain ⟨r, h1, h2⟩ := hr2
  have hN : vs.length ≤ d.N.length := by
    have := congrArg List.length S.pre
    rw [List.length_take] at this
    omega
  have R := sr_start (N := d.N) hN hpl hS (cc := none) (k := k) (fun _ z => nomatch z) ha
  have hrep : d.fn.slots - d.fn.pars = d.N.length - as.length := by rw [hal]; rfl
  rw [hrep] at h1
  refine ⟨⟨none, H, S0⟩, S0, none, _, k, r, rfl, R, h1, ?_⟩
  split at h2
  · cases h2
    intro v H' sx _ hv hf
    obtain ⟨p, rfl, hp⟩ := hf rfl
    refine q p H' sx hp ?_
    cases hv with
    | lst hl ha =>
      cases ha with
      | cons a1 ha => cases ha with
        | cons a2 ha => cases ha with
          | cons a3 ha =>
            cases ha
            cases a1
            cases a2
            cases a3
            exact hide_le _ _ hl
  · cases h2
/-- the law's own promise: at a script that ok holds of, it gives True -/
def spL (K : PySem.W.Frag) (ok : List Int → Prop) : Sp := fun vs H Q _ => ∃ (a : Addr) (ns : List Int), vs = [.ref a] ∧ SqL K H a (ns.map V.int) ∧ ok ns ∧ ∀ H', Q (.bl true) H'
theorem spL_len {ok : List Int → Prop} {ps : List Str} (h : ps.length = 1) : ∀ vs H Q E, spL K ok vs H Q E → vs.length = ps.length := fun _ _ _ _ z => by
  obtain ⟨a, ns, rfl, _⟩ := z
  exact h.symm
theorem law_level (B : Wb P K mg base G t) (Kn : Known K mg t T)
    {d : Dfn} {f : Addr} {fd : FuncData} (D : DefAt K mg d f fd) (hs : d.shape = true) (h1 : d.ps.length = 1) {mkn : Str} {mki : Nat} {ok : List Int → Prop} {l n : Nat} (hc : cmpSs (d.ctx t [(mkn, mki)]) n d.body = some d.code)
    (Φ : Phi) (hΦ : ∀ id, id ≠ mki → Φ id = phi m G T l id) (hni : ∀ x, t.fids.lookup x ≠ some mki)
    (make : ∃ (f : Addr) (fd : FuncData) (ps : List Str), FnG P w K mg base (40 + l) f fd ps (spM K ps.length (Φ mki)) ∧ mg mkn = some (.ref f) ∧ PySem.W.keepIn K (.ref f) = true ∧ Binds K fd ps [] ∧ ∀ as k r, Φ mki as k = some r → as.length = ps.length)
    (hlaw : ∀ ns, ok ns → ∃ k', runFn Φ G m d.fn [.scr ns] (0, 0, 0) = some (.bool true, k')) : FnG P w K mg base (40 + l + 1) f fd d.ps (spL K ok) := by
  have lv := levels (m := m) (w := w) B Kn l
  obtain ⟨⟨qual, F⟩, hm⟩ := D
  obtain ⟨s1, s2⟩ := Bool.and_eq_true_iff.mp hs
  have S := scopeB_ok s1
  obtain ⟨oc, od, dV, kV, doc, pm, an, cdv, ct, osl, rfl, lk, hcd, _, _⟩ := F.ex
  refine fnG_of lk hcd S (spL_len h1) fun A outer s H vs Q hg hr hsp => ?_
  have W := wf_body (t := t) (mks := [(mkn, mki)]) (Φ := Φ) (k := l) B S hg (by rw [Nat.add_comm l 40]; exact hr) (H := H) (outer := outer) (fun x id e => by
    obtain ⟨f', fd', ps', F', m', k', b', l'⟩ := lv x id e
    rw [← hΦ id (fun z => hni x (by rw [← z]; exact e))] at F' l'
    exact ⟨⟨40 + l, f', fd', ps', F', hr, m', k', b', l'⟩, hg⟩) (fun x id e => by
    rw [List.lookup_cons] at e
    split at e
    · rename_i hx
      cases e
      obtain ⟨f', fd', ps', F', m', k', b', l'⟩ := make
      rw [eq_of_beq hx]
      exact ⟨⟨40 + l, f', fd', ps', F', hr, m', k', b', l'⟩, hg⟩
    · cases e)
  refine ⟨_, (cmpS_ok W m n).2.2 _ _ hc, ?_⟩
  obtain ⟨a, ns, rfl, hS, hok, q⟩ := hsp
  obtain ⟨k', hrun⟩ := hlaw ns hok
  unfold runFn at hrun
  split at hrun
  case isFalse => cases hrun
  case isTrue hal =>
  simp only [Option.bind_eq_some_iff] at hrun
  obtain ⟨r, g1, g2⟩ := hrun
  have hN : ([V.ref a] : List V).length ≤ d.N.length := by
    have := congrArg List.length S.pre
    rw [List.length_take, h1] at this
    show 1 ≤ _
    omega
  have R := sr_start (K := K) (N := d.N) (vs := [.ref a]) (as := [.scr ns]) (S := []) (cc := none) (H := H) (k := (0, 0, 0)) hN rfl (fun _ z => nomatch z) (fun _ z => nomatch z) (.cons ⟨a, rfl, hS, .inl (fun z => nomatch z)⟩ .nil)
  have hrep : d.fn.slots - d.fn.pars = d.N.length - ([Sl.scr ns] : List Sl).length := by rw [hal]; rfl
  rw [hrep] at g1
  refine ⟨⟨none, H, []⟩, [], none, _, (0, 0, 0), r, rfl, R, g1, ?_⟩
  cases r with
  | rt d2 k2 fl =>
    cases g2
    intro v H' _ _ hv _
    cases hv
    exact q H'
  | nx env2 k2 => cases g2
  | bk _ _ => cases g2
  | ct _ _ => cases g2
end

/-! ### the end -/
theorem start_heap {P : Program} {w : World} {K : PySem.W.Frag} {s₁ : Shared} {a : Addr} {vs : List Value} {ns : List Int} (KX : K.In s₁.heap) (ha : s₁.heap.get? a = some { cls := .type "list", data := .seq vs.toArray }) (hi : IntsAre vs ns) (hl : ns.length ≤ sizeLine) :
    ∃ H : Hp, SqL K H a (ns.map V.int) ∧ HOk P w H s₁.heap ∧ ∀ b u, H b = some u → b = a ∧ K.lookup a = none ∧ ∃ o xs, u = .frz o (.lst xs) := by
  have rv := vals_ints hi
  have lv := hi.length
  cases hk : K.lookup a with
  | some o =>
    have e := KX a o hk
    rw [ha] at e
    cases e
    exact ⟨fun _ => none, .inr ⟨_, vs.toArray, _, hk, rfl, rfl, rfl, by rw [List.size_toArray, lv]; exact hl, by simpa using rv⟩, fun b u (z : none = some u) => (nomatch z), fun b u (z : none = some u) => (nomatch z)⟩
  | none =>
    have at_a : (upd (fun _ => none) a (.frz { cls := .type "list", data := .seq vs.toArray } (.lst (ns.map V.int))) : Hp) a = _ := upd_same
    have only : ∀ b u, (upd (fun _ => none) a (.frz { cls := .type "list", data := .seq vs.toArray } (.lst (ns.map V.int))) : Hp) b = some u → b = a ∧ u = .frz { cls := .type "list", data := .seq vs.toArray } (.lst (ns.map V.int)) := fun b u z => by
      by_cases e : b = a
      · subst e
        rw [upd_same] at z
        exact ⟨rfl, (Option.some.inj z).symm⟩
      · rw [upd_ne e] at z
        cases z
    refine ⟨_, .inl (.inr ⟨_, at_a⟩), fun b u z => ?_, fun b u z => ?_⟩
    · obtain ⟨rfl, rfl⟩ := only b u z
      exact ⟨ha, by rw [List.length_map]; exact hl, vs, _, rv, ha⟩
    · obtain ⟨e, rfl⟩ := only b u z
      exact ⟨e, rfl, _, _, rfl⟩
theorem law_callG {P : Program} {w : World} {K : PySem.W.Frag} {mg mb : Str → Option Value} {k : Nat} {fa a : Addr} {fd : FuncData} {x : Str} {sp : Sp} {s₁ : Shared} {vs : List Value} {ns : List Int}
    (KX : K.In s₁.heap) (hns : s₁.heap.Ns mainGlobals mg) (hb : s₁.heap.Ns builtinsNs mb) (hbb : ∀ x : Str, x ≠ "__name__" → mb x = bootBuiltins x) (hlim : s₁.heap.NoLimit) (hg : s₁.gens = #[])
    (ha : s₁.heap.get? a = some { cls := .type "list", data := .seq vs.toArray }) (hi : IntsAre vs ns) (hl : ns.length ≤ sizeLine) (hr : Room k callerA)
    (F : ∀ base : Heap, Mod K mg base → FnG P w K mg base k fa fd [x] sp) (hbind : ∀ (s : Shared) (u : Value), BindsTo s fd ⟨[u], []⟩ [(x, u)])
    (hsp : ∀ H : Hp, SqL K H a (ns.map V.int) → sp [.ref a] H (fun v _ => v = .bl true) E0) :
    codeAny (model P w) callerA (.call (.ref fa) ⟨[.ref a], []⟩) (fun r s' => r = .ok (.ret (.bool true)) ∧ OldK s₁.heap s'.heap ∧ s'.os = s₁.os ∧ AllBare s'.gens) s₁ := by
  obtain ⟨H, hS, hok, only⟩ := start_heap (P := P) (w := w) KX ha hi hl
  -- what is no list stays in the base
  have un : ∀ {b : Addr} {o : Obj}, s₁.heap.get? b = some o → (b = a → K.lookup a ≠ none ∨ ∃ es n, o.data = .dict es n) → (hidT s₁.heap H).get? b = some o := fun {b o} e c => hidT_get e <| by
    cases q : H b with
    | none => rfl
    | some u =>
      exfalso
      obtain ⟨rfl, hk, _⟩ := only b u q
      rcases c rfl with z | ⟨es, n, z⟩
      · exact z hk
      · rw [ha] at e
        cases e
        cases z
  have ns_un : ∀ {b : Addr} {m : Str → Option Value}, s₁.heap.Ns b m → (hidT s₁.heap H).Ns b m := fun {b m} z => by
    obtain ⟨o, es, ep, e, d, r⟩ := z
    exact ⟨o, es, ep, un e fun _ => .inr ⟨es, ep, d⟩, d, r⟩
  have M : Mod K mg (hidT s₁.heap H) := by
    refine ⟨fun b o e => un (KX b o e) fun z => .inl (by rw [← z, e]; simp), ns_un hns, ⟨mb, ns_un hb, hbb⟩, ?_⟩
    obtain ⟨mc, h1, h2⟩ := hlim
    exact ⟨mc, ns_un h1, h2⟩
  have e0 : Env0 P w K mg (hidT s₁.heap H) callerA [] s₁ H := ⟨rfl, M, fun b o e => of_hidT e, Nat.le_of_eq (hidT_size _ _), trivial, fun b z => absurd (show b ∈ ([] : List Addr) from z) (by simp), hok, .of_eq hg⟩
  refine codeAny_mono ((F _ M).run callerA [] s₁ H ⟨[.ref a], []⟩ [.ref a] [.ref a] _ rfl hr e0 (hbind s₁ (.ref a)) (.cons rfl .nil) (hsp H hS)) fun r s' h => ?_
  match r, h with
  | .error _, h => exact h.elim
  | .ok .next, h => exact h.elim
  | .ok .brk, h => exact h.elim
  | .ok .cont, h => exact h.elim
  | .ok (.ret u), h =>
    obtain ⟨v, H', os, bare, U, hok', r', q⟩ := h
    obtain rfl : v = .bl true := q
    obtain rfl : u = Value.bool true := r'
    refine ⟨rfl, OldK.of_keep fun b o e => ?_, os, bare⟩
    cases q : H b with
    | none => exact U.keep b o e q (fun z => absurd (show b ∈ ([] : List Addr) from z) (by simp)) (by simp)
    | some u =>
      obtain ⟨_, _, ob, xs, rfl⟩ := only b u q
      have e1 := (hok b _ q).1
      rw [e] at e1
      cases e1
      exact (hok' b _ (U.frzs b _ _ q)).1
/-- a law, from its def's promise over every base -/
theorem walk_ofG {l : PySem.W.OpenLaw} {n k : Nat} {q : Program} {loose : List Str} {XP : (Str → Option Value) → Heap → Prop} {YP : World → Heap → Prop} {d : DefRec} {x : Str}
    (hn : l.most = some n) (hn2 : n ≤ sizeLine) (hdf : d.params.defaults = []) (hr : Room k callerA)
    (F : ∀ (w : World) (mg : Str → Option Value) (fa : Addr) (h : Heap), YP w h → h.Ns mainGlobals mg → mg d.name = some (.ref fa) →
      ∃ (K : PySem.W.Frag) (fd : FuncData), K.In h ∧ (∀ (s : Shared) (u : Value), BindsTo s fd ⟨[u], []⟩ [(x, u)]) ∧
        ∀ base : Heap, Mod K mg base → FnG l.prog w K mg base k fa fd [x] (spL K fun ns => ns.length ≤ n ∧ ∀ z ∈ ns, Builtin.Int.intBits z ≤ 1048576)) :
    PySem.W.WalkO q loose XP YP l.row.toRowW d [] (fun f vs => PySem.call f vs) := by
  refine Att.attach_callB hn hdf fun w s₀ s₁ mg mb fa o pm cd doc a vs ns Gr Y ho hd hcd hmg hobj hints hlen hbits hg => ?_
  obtain ⟨K, fd, KX, hb, hF⟩ := F w mg fa _ Y Gr.T.g hmg
  exact law_callG KX Gr.T.g Gr.T.b Gr.T.builtins Gr.T.nolimit hg hobj hints (Nat.le_trans hlen hn2) hr hF hb fun H hS => ⟨a, ns, rfl, hS, ⟨hlen, hbits⟩, fun _ => rfl⟩
end Dn
set_option Elab.async false
set_option linter.all false
set_option maxRecDepth 100000
/-! Dn24: what a run of the head tells. -/
namespace Dn
open PySem PySem.Spec PyProof.Rows L2
mutual
/-- u is the data d, by what K holds -/
def dqB (K : PySem.W.Frag) : Nat → Value → PyData → Bool
  | _, .int i _, .int j => decide (i = j)
  | _, .bool b, .bool c => b == c
  | _, .none, .none => true
  | n + 1, .ref a, .tuple ds => match K.lookup a with
    | some ⟨.type c, _, .seq its _, _⟩ => decide (c = "tuple") && (decide (its.size ≤ sizeLine) && dqBs K n its.toList ds)
    | _ => false
  | _, _, _ => false
def dqBs (K : PySem.W.Frag) : Nat → List Value → List PyData → Bool
  | _, [], [] => true
  | n + 1, u :: us, d :: ds => dqB K n u d && dqBs K n us ds
  | _, _, _ => false
end
theorem dq_ok {K : PySem.W.Frag} : ∀ n : Nat, (∀ u d, dqB K n u d = true → ∃ v, RelV v u ∧ ∀ H, Dq K H v d) ∧ (∀ us ds, dqBs K n us ds = true → ∃ vs, Vals vs us ∧ ∀ H, DqAll K H vs ds)
  | 0 => by
    refine ⟨fun u d h => ?_, fun us ds h => ?_⟩
    · unfold dqB at h
      split at h
      · rename_i i t j
        obtain rfl : i = j := of_decide_eq_true h
        exact ⟨.int i, ⟨_, rfl⟩, fun H => .int i⟩
      · rename_i b c
        obtain rfl : b = c := eq_of_beq h
        exact ⟨.bl b, rfl, fun H => .bl b⟩
      · exact ⟨.non, rfl, fun H => .non⟩
      · rename_i e; cases e
      · cases h
    · unfold dqBs at h
      split at h
      · exact ⟨[], .nil, fun H => .nil⟩
      · rename_i e; cases e
      · cases h
  | n + 1 => by
    obtain ⟨ih1, ih2⟩ := dq_ok (K := K) n
    refine ⟨fun u d h => ?_, fun us ds h => ?_⟩
    · unfold dqB at h
      split at h
      · rename_i i t j
        obtain rfl : i = j := of_decide_eq_true h
        exact ⟨.int i, ⟨_, rfl⟩, fun H => .int i⟩
      · rename_i b c
        obtain rfl : b = c := eq_of_beq h
        exact ⟨.bl b, rfl, fun H => .bl b⟩
      · exact ⟨.non, rfl, fun H => .non⟩
      · rename_i m a ds e
        cases e
        split at h
        · rename_i c od its k sl hl
          obtain ⟨h1, h2⟩ := Bool.and_eq_true_iff.mp h
          obtain ⟨h3, h4⟩ := Bool.and_eq_true_iff.mp h2
          obtain ⟨vs, r, q⟩ := ih2 _ _ h4
          exact ⟨.ref a, rfl, fun H => .tup (.inr ⟨_, its, k, hl, congrArg Value.type (of_decide_eq_true h1), rfl, of_decide_eq_true h3, r⟩) (q H)⟩
        · cases h
      · cases h
    · unfold dqBs at h
      split at h
      · exact ⟨[], .nil, fun H => .nil⟩
      · rename_i m u us d ds e
        cases e
        obtain ⟨h1, h2⟩ := Bool.and_eq_true_iff.mp h
        obtain ⟨v, r, q⟩ := ih1 _ _ h1
        obtain ⟨vs, r2, q2⟩ := ih2 _ _ h2
        exact ⟨v :: vs, .cons r r2, fun H => .cons (q H) (q2 H)⟩
      · cases h
/-! ### the runs' own objects -/
theorem ns_none {K : PySem.W.Frag} {h : Heap} {m : Str → Option Value} {D : Addr} {n : Str} (X : K.In h) (G : h.Ns D m) (e : PySem.W.nsIn K D n = some none) : m n = none := by
  obtain ⟨o, es, ep, ho, hd, _, hf⟩ := G
  unfold PySem.W.nsIn at e
  split at e
  · rename_i q
    have z := X _ _ q
    rw [ho] at z
    cases z
    cases hd
    split at e
    · cases e
    · rename_i he
      rw [← hf]
      unfold nsFind findBy
      rw [← Array.find?_toList, he]
      rfl
  · cases e
def strNs (K : PySem.W.Frag) (D : Addr) : Bool := match K.lookup D with
  | some o => (match o.data with | .dict es _ => es.all (fun e => match e.key with | .str _ _ => true | _ => false) | _ => false)
  | none => false
theorem strNs_ok {K : PySem.W.Frag} {h : Heap} {D : Addr} (X : K.In h) (e : strNs K D = true) : h.Ns D (h.nsMap D) := by
  refine Heap.Ns.of_isNs ?_
  unfold strNs at e
  unfold Heap.isNs
  cases q : K.lookup D with
  | none => rw [q] at e; cases e
  | some o =>
    rw [q] at e
    rw [X _ _ q]
    exact e
def seerB (K : PySem.W.Frag) : Bool := He.eqO (PySem.W.nsIn K cStatics "sys.audit-hooks") (some none) && (He.eqO (PySem.W.nsIn K cStatics "sys.dict") (some none) && (strNs K sysModules && (He.eqO (PySem.W.nsIn K sysModules "_pylong") (some none) &&
  match PySem.W.nsIn K mainGlobals "__builtins__" with
  | some (some (.ref bm)) => (match K.lookup bm with
    | some ⟨.type c, some b, _, _⟩ => decide (c = "module") && decide (b = builtinsNs)
    | _ => false)
  | _ => false)))
theorem seer_ok {K : PySem.W.Frag} {mg : Str → Option Value} {base : Heap} (M : L2.Mod K mg base) (h : seerB K = true) : base.NoSeer := by
  unfold seerB at h
  obtain ⟨h1, h⟩ := Bool.and_eq_true_iff.mp h
  obtain ⟨h2, h⟩ := Bool.and_eq_true_iff.mp h
  obtain ⟨h3, h⟩ := Bool.and_eq_true_iff.mp h
  obtain ⟨h4, h⟩ := Bool.and_eq_true_iff.mp h
  obtain ⟨mc, n1, _⟩ := M.nolimit
  refine ⟨⟨mc, n1, ns_none M.kin n1 (He.eqO_ok h1), ns_none M.kin n1 (He.eqO_ok h2)⟩, ⟨_, strNs_ok M.kin h3, ns_none M.kin (strNs_ok M.kin h3) (He.eqO_ok h4)⟩, M.blt, ?_⟩
  split at h
  · rename_i bm hb
    split at h
    · rename_i c b dt sl hl
      obtain ⟨g1, g2⟩ := Bool.and_eq_true_iff.mp h
      refine ⟨mg, bm, _, M.glob, PySem.W.mg_of M.kin M.glob hb, M.kin _ _ hl, congrArg Value.type (of_decide_eq_true g1), congrArg some (of_decide_eq_true g2)⟩
    · cases h
  · cases h
/-! ### the hook -/
def Dfn.toD (d : Dfn) : He.DefD := ⟨(d.name, none), d.name, d.name, d.args, d.body, d.scope, [], []⟩
def cstB (K : PySem.W.Frag) (c : Str × Nat × PyData) : Bool := match PySem.W.nsIn K mainGlobals c.1 with
  | some (some u) => dqB K 20 u c.2.2
  | _ => false
/-- one def as it stands: well coded, without defaults; its parts -/
def obs1 (K : PySem.W.Frag) (x : Str) : Bool × He.FnW := match PySem.W.nsIn K mainGlobals x with
  | some (some (.ref a)) => (match K.lookup a with
    | some ⟨_, _, .func fd, _⟩ => (PySem.W.codeIn K fd.code x && (He.dflB K fd.defaults [] && He.kwdB K fd.kwdefaults []), some (fd.name, fd.qualname, fd.params, fd.body, fd.scope, fd.globals, fd.closure, fd.builtins))
    | _ => (false, none))
  | _ => (false, none)
def headB (cs : List (Str × Nat × PyData)) (K : PySem.W.Frag) : Bool := seerB K && ((bltNames.all fun x => (He.Fa.free x).ok K) && (He.eqO (PySem.W.nsIn K mainGlobals "gcd") (some (some (.builtin "math.gcd"))) && cs.all fun c => cstB K c))
abbrev AlN : Type := Bool × List (Bool × He.FnW)
abbrev obsN (ds : List Dfn) (cs : List (Str × Nat × PyData)) (K : PySem.W.Frag) : AlN := (headB cs K, ds.map fun d => obs1 K d.name)
def valN (ds : List Dfn) : AlN := (true, ds.map fun d => (true, d.toD.val))
def SaysN (ds : List Dfn) (cs : List (Str × Nat × PyData)) (K : PySem.W.Frag) : Prop := obsN ds cs K = valN ds
/-- the objects looked at: the module's names' values, the defs' codes, the tuples' items -/
def asN (g : Addr → Option Obj) : List Addr := cStatics :: sysModules :: mainGlobals :: match g mainGlobals with
  | some o => (match o.data with
    | .dict es _ => es.toList.flatMap fun e => match e.val with
      | .ref a => a :: (match g a with
        | some o => (match o.data with
          | .func fd => He.refV fd.code
          | .seq its _ => its.toList.flatMap He.refV
          | _ => [])
        | none => [])
      | _ => []
    | _ => [])
  | none => []
def obsNG (ds : List Dfn) (cs : List (Str × Nat × PyData)) (g : Addr → Option Obj) : AlN := obsN ds cs (He.frG g (asN g))
def hookN (ds : List Dfn) (cs : List (Str × Nat × PyData)) : PySem.W.Hook where
  α := AlN
  obs := fun s => obsNG ds cs s.heap.get?
  val := fun _ => valN ds
  says := fun _ h => ∃ K : PySem.W.Frag, K.In h ∧ SaysN ds cs K
  of := fun _ _ e => ⟨_, He.frG_in, e⟩
  keeps := fun _ _ _ ⟨K, hK, c⟩ k => ⟨K, PySem.W.Frag.In.keeps hK k, c⟩
theorem obsNG_eq {ds : List Dfn} {cs : List (Str × Nat × PyData)} {g : Addr → Option Obj} {s : Shared} (h : ∀ a, g a = s.heap.get? a) : obsNG ds cs g = (hookN ds cs).obs s := by
  have e : g = s.heap.get? := funext h
  rw [e] <;> rfl
section
variable {K : PySem.W.Frag} {ds : List Dfn} {cs : List (Str × Nat × PyData)} {h : Heap} {mg : Str → Option Value}
theorem SaysN.head (c : SaysN ds cs K) : headB cs K = true := congrArg (fun z : AlN => z.1) c
theorem SaysN.def_ (c : SaysN ds cs K) (X : K.In h) (Gl : h.Ns mainGlobals mg) {d : Dfn} (hd : d ∈ ds) : ∃ fd, DefAt K mg d (He.ga K d.name) fd := by
  have e : ds.map (fun d => obs1 K d.name) = ds.map fun d => (true, d.toD.val) := congrArg (fun z : AlN => z.2) c
  have e1 : obs1 K d.name = (true, d.toD.val) := List.map_inj_left.mp e d hd
  unfold obs1 at e1
  split at e1
  · rename_i a hn
    have ega : He.ga K d.name = a := by unfold He.ga; rw [hn]
    split at e1
    · rename_i oc od fd sl hl
      simp only [Prod.mk.injEq] at e1
      obtain ⟨q1, q2⟩ := e1
      have f1 : He.fnW K d.toD.at_ = d.toD.val := by
        unfold He.fnW
        have : He.fAd K d.toD.at_ = a := ega
        rw [this, hl]
        exact q2
      have f2 : d.toD.ok K = true := by
        unfold He.DefD.ok
        have : He.fAd K d.toD.at_ = a := ega
        rw [this]
        refine Bool.and_eq_true_iff.mpr ⟨?_, ?_⟩
        · unfold PySem.W.keepIn
          simp only [hl]
        · rw [hl]
          exact q1
      obtain ⟨fd2, F⟩ := He.DefD.funD f1 f2
      exact ⟨fd2, ⟨d.name, F⟩, by rw [ega]; exact PySem.W.mg_of X Gl hn⟩
    · cases e1
  · cases e1
theorem SaysN.wb {P : Program} {base : Heap} {G : Glo} {fids : List (Str × Nat)} (c : SaysN ds cs K) (X : K.In h) (Gl : h.Ns mainGlobals mg) (M : L2.Mod K mg base) (ht : P.given.tree = none) (hG : ∀ c ∈ cs, G c.2.1 = some c.2.2) :
    Wb P K mg base G ⟨fids, cs.map fun c => (c.1, c.2.1)⟩ := by
  have c1 := c.head
  unfold headB at c1
  simp only [Bool.and_eq_true, List.all_eq_true] at c1
  obtain ⟨q1, q2, q3, q5⟩ := c1
  refine ⟨seer_ok M q1, ht, fun x hx => He.free_ok X Gl (q2 x hx), PySem.W.mg_of X Gl (He.eqO_ok q3), fun x g e => ?_⟩
  have key : ∀ l : List (Str × Nat × PyData), (∀ c ∈ l, c ∈ cs) → (l.map fun c => (c.1, c.2.1)).lookup x = some g → ∃ c ∈ cs, c.1 = x ∧ c.2.1 = g := by
    intro l
    induction l with
    | nil => intro _ z; cases z
    | cons a r ih =>
      intro hm z
      rw [List.map_cons, List.lookup_cons] at z
      split at z
      · rename_i hx
        cases z
        exact ⟨a, hm a (List.mem_cons_self ..), (eq_of_beq hx).symm, rfl⟩
      · exact ih (fun c hc => hm c (List.mem_cons_of_mem _ hc)) z
  obtain ⟨c0, hc, rfl, rfl⟩ := key cs (fun _ z => z) e
  have q := q5 c0 hc
  unfold cstB at q
  split at q
  · rename_i u hu
    obtain ⟨v, r, hv⟩ := (dq_ok 20).1 _ _ q
    exact ⟨v, u, c0.2.2, hG c0 hc, PySem.W.mg_of X Gl hu, r, hv⟩
  · cases q
end
/-! ### a law's texts, checked -/
/-- a def of the law's text with its number -/
structure Item where
  d : Dfn
  id : Nat
def fidsOf (l : List Item) : List (Str × Nat) := l.map fun i => (i.d.name, i.id)
def AllI (p : Item → Prop) : List Item → Prop
  | [] => True
  | i :: r => p i ∧ AllI p r
theorem AllI.get {p : Item → Prop} : ∀ {l : List Item}, AllI p l → ∀ i ∈ l, p i
  | _ :: _, h, i, m => by
    rcases List.mem_cons.mp m with rfl | m
    · exact h.1
    · exact AllI.get h.2 i m
theorem AllI.app {p : Item → Prop} : ∀ {l r : List Item}, AllI p l → AllI p r → AllI p (l ++ r)
  | [], _, _, h => h
  | _ :: _, _, h, g => ⟨h.1, AllI.app h.2 g⟩
def codeOk (t : Tab) (mks : List (Str × Nat)) (d : Dfn) : Prop := cmpSs (d.ctx t mks) 300 d.body = some d.code
theorem fids_get {l : List Item} {x : Str} {id : Nat} (h : (fidsOf l).lookup x = some id) : ∃ i ∈ l, i.d.name = x ∧ i.id = id := by
  induction l with
  | nil => cases h
  | cons a r ih =>
    unfold fidsOf at h
    rw [List.map_cons, List.lookup_cons] at h
    split at h
    · rename_i hx
      cases h
      exact ⟨a, List.mem_cons_self .., (eq_of_beq hx).symm, rfl⟩
    · obtain ⟨i, hi, q⟩ := ih h
      exact ⟨i, List.mem_cons_of_mem _ hi, q⟩
/-- the law's def, from what is checked of the texts and what the small language says -/
theorem law_walk {l : PySem.W.OpenLaw} {n m lv mki : Nat} {q : Program} {loose : List Str} {XP : (Str → Option Value) → Heap → Prop} {d : DefRec} {items : List Item} {cs : List (Str × Nat × PyData)} {mk law : Dfn} {G : Glo} {T : Nat → Option Fn}
    (hn : l.most = some n) (hn2 : n ≤ sizeLine) (hdf : d.params.defaults = []) (hdn : d.name = law.name) (hr : Room (40 + lv + 1 + 1) callerA) (ht : l.prog.given.tree = none)
    (hG : ∀ c ∈ cs, G c.2.1 = some c.2.2) (hT : AllI (fun i => T i.id = some i.d.fn) items) (hs : ((items.map (·.d)) ++ [mk, law]).all Dfn.shape = true)
    (hc : AllI (fun i => codeOk ⟨fidsOf items, cs.map fun c => (c.1, c.2.1)⟩ [] i.d) items) (hcm : codeOk ⟨fidsOf items, cs.map fun c => (c.1, c.2.1)⟩ [] mk)
    (hcl : codeOk ⟨fidsOf items, cs.map fun c => (c.1, c.2.1)⟩ [(mk.name, mki)] law) (hni : items.all (fun i => !decide (i.id = mki)) = true) (h1 : law.ps = [("script" : Str)])
    (hlaw : ∀ ns, (ns.length ≤ n ∧ ∀ z ∈ ns, Builtin.Int.intBits z ≤ 1048576) →
      ∃ k', runFn (fun id => if id = mki then (fun as k => if as.all plainSl then runMk (phi m G T lv) G m mk.fn as k else none) else phi m G T (lv + 1) id) G m law.fn [.scr ns] (0, 0, 0) = some (.bool true, k')) :
    PySem.W.WalkO q loose XP (hookN ((items.map (·.d)) ++ [mk, law]) cs).says l.row.toRowW d [] (fun f vs => PySem.call f vs) := by
  refine walk_ofG (k := 40 + (lv + 1) + 1) (x := ("script" : Str)) hn hn2 hdf (by rw [show 40 + (lv + 1) + 1 = 40 + lv + 1 + 1 by omega]; exact hr) fun w mg fa h Y Gm hmg => ?_
  obtain ⟨K, KX, says⟩ := Y
  have shapes := List.all_eq_true.mp hs
  have memI : ∀ i ∈ items, i.d ∈ (items.map (·.d)) ++ [mk, law] := fun i hi => List.mem_append_left _ (List.mem_map_of_mem hi)
  have memM : mk ∈ (items.map (·.d)) ++ [mk, law] := List.mem_append_right _ (List.mem_cons_self ..)
  have memL : law ∈ (items.map (·.d)) ++ [mk, law] := List.mem_append_right _ (List.mem_cons_of_mem _ (List.mem_cons_self ..))
  obtain ⟨fdl, DL⟩ := says.def_ KX Gm memL
  obtain ⟨fdm, DM⟩ := says.def_ KX Gm memM
  have efa : He.ga K law.name = fa := by
    have := DL.mg_
    rw [← hdn, hmg] at this
    rw [← hdn]
    exact (Value.ref.inj (Option.some.inj this)).symm
  have Kn : Known K mg ⟨fidsOf items, cs.map fun c => (c.1, c.2.1)⟩ T := ⟨fun x id e => by
    obtain ⟨i, hi, rfl, rfl⟩ := fids_get e
    obtain ⟨fd, D⟩ := says.def_ KX Gm (memI i hi)
    exact ⟨i.d, _, fd, hT.get i hi, rfl, D, shapes _ (memI i hi), 300, hc.get i hi⟩⟩
  have hps : law.ps.length = 1 := by rw [h1]; rfl
  refine ⟨K, fdl, KX, fun s u => ?_, fun base M => ?_⟩
  · obtain ⟨⟨qual, F⟩, _⟩ := DL
    obtain ⟨s1, s2⟩ := Bool.and_eq_true_iff.mp (shapes _ memL)
    have b := F.bindsA (ps := [("script" : Str)]) (fun kV doc pm an cdv ct us hl => by
      have z := bind_plain (us := us) (fnOf_params (name := law.name) (qual := qual) (params := law.args) (body := law.body) (scope := law.scope) (dV := .none) (kV := kV) (doc := doc) (pm := pm) (cdv := cdv) (ct := ct) (an := an) |>.1.trans (argsB_ok s2)) rfl
        (by rw [hl, ← h1]; exact List.length_map ..) (by
          have e : law.args.args.map (·.arg) = law.ps := rfl
          rw [e, h1]
          decide)
      have e : law.args.args.map (·.arg) = law.ps := rfl
      rw [e, h1] at z
      exact z) s [u] rfl
    exact b
  · have B := says.wb (P := l.prog) (G := G) (fids := fidsOf items) KX Gm M ht hG
    rw [← efa, ← h1]
    refine law_level (m := m) (l := lv + 1) B Kn DL (shapes _ memL) hps hcl _ (fun id hid => ?_) (fun x e => ?_) ?_ hlaw
    · simp only [if_neg hid]
    · obtain ⟨i, hi, _, hid⟩ := fids_get e
      have := List.all_eq_true.mp hni i hi
      simp [hid] at this
    · refine ⟨_, fdm, mk.ps, ?_, DM.mg_, DM.keep, DM.binds (shapes _ memM), fun as k r e => ?_⟩
      · simp only [if_true]
        exact mk_level (m := m) B DM (shapes _ memM) Kn hcm
      · simp only [if_true] at e
        split at e
        · unfold runMk at e
          split at e
          · rename_i z; exact z
          · cases e
        · cases e
end Dn
set_option Elab.async false
set_option linter.all false
set_option maxRecDepth 100000
/-! DnLib: the defs of the laws' texts, compiled (printed by genlib.py). -/
namespace DnLib
open PySem Dn
/-- is_whole(value) [value] -/
def c1 : CSs := (.cons (.ret (.and (.blt .isInt (.cons (.var 0) .nil)) (.not (.blt .isBool (.cons (.var 0) .nil))))) .nil)
/-- are_wholes(value, many) [value many each] -/
def c3 : CSs := (.cons (.ret (.and (.blt .isTup (.cons (.var 0) .nil)) (.and (.cmp .eq (.blt .len (.cons (.var 0) .nil)) (.var 1)) (.blt .all (.cons (.comp (.one 2) [2] (.seq (.var 0)) (.bl true) (.call 1 (.cons (.var 2) .nil))) .nil))))) .nil)
/-- divisor_of(numbers) [numbers found number] -/
def c4 : CSs := (.cons (.asg 1 (.int 0)) (.cons (.for_ (.one 2) (.seq (.var 0)) (.cons (.asg 1 (.blt .gcd (.cons (.var 1) (.cons (.var 2) .nil)))) .nil)) (.cons (.ret (.var 1)) .nil)))
/-- lowest(numbers) [numbers part number] -/
def c5 : CSs := (.cons (.asg 1 (.call 4 (.cons (.var 0) .nil))) (.cons (.ret (.ite (.cmp .eq (.var 1) (.int 0)) (.blt .tuple (.cons (.var 0) .nil)) (.blt .tuple (.cons (.comp (.one 2) [2] (.seq (.var 0)) (.bl true) (.bin .fdiv (.var 2) (.var 1))) .nil)))) .nil))
/-- is_ratio(value) [value] -/
def c7 : CSs := (.cons (.ret (.and (.call 3 (.cons (.var 0) (.cons (.int 2) .nil))) (.and (.cmp .gt (.idx (.var 0) (.int 1)) (.int 0)) (.cmp .eq (.call 4 (.cons (.var 0) .nil)) (.int 1))))) .nil)
/-- ratio(top, low) [top low] -/
def c8 : CSs := (.cons (.ret (.ite (.cmp .gt (.var 1) (.int 0)) (.call 5 (.cons (.tup (.cons (.var 0) (.cons (.var 1) .nil))) .nil)) (.call 5 (.cons (.tup (.cons (.neg (.var 0)) (.cons (.neg (.var 1)) .nil))) .nil)))) .nil)
/-- plus(one, two) [one two] -/
def c9 : CSs := (.cons (.ret (.call 8 (.cons (.bin .add (.bin .mul (.idx (.var 0) (.int 0)) (.idx (.var 1) (.int 1))) (.bin .mul (.idx (.var 1) (.int 0)) (.idx (.var 0) (.int 1)))) (.cons (.bin .mul (.idx (.var 0) (.int 1)) (.idx (.var 1) (.int 1))) .nil)))) .nil)
/-- minus(one, two) [one two] -/
def c10 : CSs := (.cons (.ret (.call 8 (.cons (.bin .sub (.bin .mul (.idx (.var 0) (.int 0)) (.idx (.var 1) (.int 1))) (.bin .mul (.idx (.var 1) (.int 0)) (.idx (.var 0) (.int 1)))) (.cons (.bin .mul (.idx (.var 0) (.int 1)) (.idx (.var 1) (.int 1))) .nil)))) .nil)
/-- times(one, two) [one two] -/
def c11 : CSs := (.cons (.ret (.call 8 (.cons (.bin .mul (.idx (.var 0) (.int 0)) (.idx (.var 1) (.int 0))) (.cons (.bin .mul (.idx (.var 0) (.int 1)) (.idx (.var 1) (.int 1))) .nil)))) .nil)
/-- over(one, two) [one two] -/
def c12 : CSs := (.cons (.ret (.call 8 (.cons (.bin .mul (.idx (.var 0) (.int 0)) (.idx (.var 1) (.int 1))) (.cons (.bin .mul (.idx (.var 0) (.int 1)) (.idx (.var 1) (.int 0))) .nil)))) .nil)
/-- total(fractions) [fractions found each] -/
def c13 : CSs := (.cons (.asg 1 (.glo 0)) (.cons (.for_ (.one 2) (.seq (.var 0)) (.cons (.asg 1 (.call 9 (.cons (.var 1) (.cons (.var 2) .nil)))) .nil)) (.cons (.ret (.var 1)) .nil)))
/-- is_below(one, two) [one two] -/
def c14 : CSs := (.cons (.ret (.cmp .lt (.bin .mul (.idx (.var 0) (.int 0)) (.idx (.var 1) (.int 1))) (.bin .mul (.idx (.var 1) (.int 0)) (.idx (.var 0) (.int 1))))) .nil)
/-- size_of(one) [one] -/
def c15 : CSs := (.cons (.ret (.tup (.cons (.blt .abs (.cons (.idx (.var 0) (.int 0)) .nil)) (.cons (.idx (.var 0) (.int 1)) .nil)))) .nil)
/-- power(one, many) [one many top low _] -/
def c16 : CSs := (.cons (.par [2, 3] (.cons (.int 1) (.cons (.int 1) .nil))) (.cons (.for_ (.one 4) (.rng (.var 1)) (.cons (.par [2, 3] (.cons (.bin .mul (.var 2) (.idx (.var 0) (.int 0))) (.cons (.bin .mul (.var 3) (.idx (.var 0) (.int 1))) .nil))) .nil)) (.cons (.ret (.tup (.cons (.var 2) (.cons (.var 3) .nil)))) .nil)))
/-- trimmed(numbers) [numbers found] -/
def c17 : CSs := (.cons (.asg 1 (.blt .list (.cons (.var 0) .nil))) (.cons (.whl (.and (.cmp .ne (.var 1) (.lst .nil)) (.cmp .eq (.idx (.var 1) (.neg (.int 1))) (.glo 0))) (.cons (.popE 1) .nil)) (.cons (.ret (.blt .tuple (.cons (.var 1) .nil))) .nil)))
/-- degree_of(row) [row] -/
def c18 : CSs := (.cons (.ret (.bin .sub (.blt .len (.cons (.var 0) .nil)) (.int 1))) .nil)
/-- number_at(row, place) [row place] -/
def c19 : CSs := (.cons (.ret (.ite (.cmp .lt (.var 1) (.blt .len (.cons (.var 0) .nil))) (.idx (.var 0) (.var 1)) (.glo 0))) .nil)
/-- added(row, other) [row other many at] -/
def c20 : CSs := (.cons (.asg 2 (.blt .max2 (.cons (.blt .len (.cons (.var 0) .nil)) (.cons (.blt .len (.cons (.var 1) .nil)) .nil)))) (.cons (.ret (.call 17 (.cons (.comp (.one 3) [3] (.rng (.var 2)) (.bl true) (.call 9 (.cons (.call 19 (.cons (.var 0) (.cons (.var 3) .nil))) (.cons (.call 19 (.cons (.var 1) (.cons (.var 3) .nil))) .nil)))) .nil))) .nil))
/-- scaled(number, row) [number row each] -/
def c21 : CSs := (.cons (.ret (.call 17 (.cons (.comp (.one 2) [2] (.seq (.var 1)) (.bl true) (.call 11 (.cons (.var 0) (.cons (.var 2) .nil)))) .nil))) .nil)
/-- lessened(row, other) [row other many at] -/
def c22 : CSs := (.cons (.asg 2 (.blt .max2 (.cons (.blt .len (.cons (.var 0) .nil)) (.cons (.blt .len (.cons (.var 1) .nil)) .nil)))) (.cons (.ret (.call 17 (.cons (.comp (.one 3) [3] (.rng (.var 2)) (.bl true) (.call 10 (.cons (.call 19 (.cons (.var 0) (.cons (.var 3) .nil))) (.cons (.call 19 (.cons (.var 1) (.cons (.var 3) .nil))) .nil)))) .nil))) .nil))
/-- multiplied(row, other) [row other found place one at two] -/
def c23 : CSs := (.cons (.asg 2 (.bin .mul (.lst (.cons (.glo 0) .nil)) (.bin .add (.blt .len (.cons (.var 0) .nil)) (.blt .len (.cons (.var 1) .nil))))) (.cons (.for_ (.tup (.cons (.one 3) (.cons (.one 4) .nil))) (.enum (.var 0)) (.cons (.for_ (.tup (.cons (.one 5) (.cons (.one 6) .nil))) (.enum (.var 1)) (.cons (.setI 2 (.bin .add (.var 3) (.var 5)) (.call 9 (.cons (.idx (.var 2) (.bin .add (.var 3) (.var 5))) (.cons (.call 11 (.cons (.var 4) (.cons (.var 6) .nil))) .nil)))) .nil)) .nil)) (.cons (.ret (.call 17 (.cons (.var 2) .nil))) .nil)))
/-- parted_by(row, other) [row other left found shift at number] -/
def c24 : CSs := (.cons (.par [2, 3] (.cons (.blt .list (.cons (.var 0) .nil)) (.cons (.bin .mul (.lst (.cons (.glo 0) .nil)) (.blt .max2 (.cons (.int 0) (.cons (.bin .add (.bin .sub (.blt .len (.cons (.var 0) .nil)) (.blt .len (.cons (.var 1) .nil))) (.int 1)) .nil)))) .nil))) (.cons (.for_ (.one 4) (.revr (.blt .len (.cons (.var 3) .nil))) (.cons (.setI 3 (.var 4) (.call 12 (.cons (.idx (.var 2) (.bin .sub (.bin .add (.var 4) (.blt .len (.cons (.var 1) .nil))) (.int 1))) (.cons (.idx (.var 1) (.neg (.int 1))) .nil)))) (.cons (.for_ (.tup (.cons (.one 5) (.cons (.one 6) .nil))) (.enum (.var 1)) (.cons (.setI 2 (.bin .add (.var 4) (.var 5)) (.call 10 (.cons (.idx (.var 2) (.bin .add (.var 4) (.var 5))) (.cons (.call 11 (.cons (.idx (.var 3) (.var 4)) (.cons (.var 6) .nil))) .nil)))) .nil)) .nil))) (.cons (.ret (.tup (.cons (.call 17 (.cons (.var 3) .nil)) (.cons (.call 17 (.cons (.var 2) .nil)) .nil)))) .nil)))
/-- quotient_of(row, other) [row other] -/
def c25 : CSs := (.cons (.ret (.idx (.call 24 (.cons (.var 0) (.cons (.var 1) .nil))) (.int 0))) .nil)
/-- does_divide(row, other) [row other] -/
def c26 : CSs := (.cons (.ret (.cmp .eq (.idx (.call 24 (.cons (.var 1) (.cons (.var 0) .nil))) (.int 1)) (.tup .nil))) .nil)
/-- first_of(row) [row each] -/
def c27 : CSs := (.cons (.ret (.idx (.comp (.one 1) [1] (.seq (.var 0)) (.cmp .ne (.var 1) (.glo 0)) (.var 1)) (.int 0))) .nil)
/-- divisor_by(row, other) [row other] -/
def c28 : CSs := (.cons (.whl (.cmp .ne (.var 1) (.tup .nil)) (.cons (.par [0, 1] (.cons (.var 1) (.cons (.idx (.call 24 (.cons (.var 0) (.cons (.var 1) .nil))) (.int 1)) .nil))) .nil)) (.cons (.ret (.call 21 (.cons (.call 12 (.cons (.glo 1) (.cons (.call 27 (.cons (.var 0) .nil)) .nil))) (.cons (.var 0) .nil)))) .nil))
/-- cofactors_by(row, other) [row other old new part rest by common first] -/
def c29 : CSs := (.cons (.par [2, 3] (.cons (.tup (.cons (.var 0) (.cons (.glo 2) .nil))) (.cons (.tup (.cons (.var 1) (.cons (.tup .nil) .nil))) .nil))) (.cons (.whl (.cmp .ne (.idx (.var 3) (.int 0)) (.tup .nil)) (.cons (.unp (.cons (.one 4) (.cons (.one 5) .nil)) (.call 24 (.cons (.idx (.var 2) (.int 0)) (.cons (.idx (.var 3) (.int 0)) .nil)))) (.cons (.par [2, 3] (.cons (.var 3) (.cons (.tup (.cons (.var 5) (.cons (.call 22 (.cons (.idx (.var 2) (.int 1)) (.cons (.call 23 (.cons (.var 4) (.cons (.idx (.var 3) (.int 1)) .nil))) .nil))) .nil))) .nil))) .nil))) (.cons (.asg 6 (.call 12 (.cons (.glo 1) (.cons (.call 27 (.cons (.idx (.var 2) (.int 0)) .nil)) .nil)))) (.cons (.par [7, 8] (.cons (.call 21 (.cons (.var 6) (.cons (.idx (.var 2) (.int 0)) .nil))) (.cons (.call 21 (.cons (.var 6) (.cons (.idx (.var 2) (.int 1)) .nil))) .nil))) (.cons (.iff (.cmp .eq (.var 1) (.tup .nil)) (.cons (.ret (.tup (.cons (.var 8) (.cons (.tup .nil) .nil)))) .nil) .nil) (.cons (.asg 8 (.idx (.call 24 (.cons (.var 8) (.cons (.call 25 (.cons (.var 1) (.cons (.var 7) .nil))) .nil))) (.int 1))) (.cons (.ret (.tup (.cons (.var 8) (.cons (.call 25 (.cons (.call 22 (.cons (.var 7) (.cons (.call 23 (.cons (.var 8) (.cons (.var 0) .nil))) .nil))) (.cons (.var 1) .nil))) .nil)))) .nil)))))))
/-- worth_by(row, number) [row number found each] -/
def c30 : CSs := (.cons (.asg 2 (.glo 0)) (.cons (.for_ (.one 3) (.revs (.var 0)) (.cons (.asg 2 (.call 9 (.cons (.call 11 (.cons (.var 2) (.cons (.var 1) .nil))) (.cons (.var 3) .nil)))) .nil)) (.cons (.ret (.var 2)) .nil)))
/-- is_led_by(row) [row] -/
def c31 : CSs := (.cons (.ret (.and (.cmp .ne (.var 0) (.tup .nil)) (.cmp .eq (.idx (.var 0) (.int 0)) (.glo 1)))) .nil)
/-- led_by(row) [row] -/
def c32 : CSs := (.cons (.ret (.call 21 (.cons (.call 12 (.cons (.glo 1) (.cons (.idx (.var 0) (.int 0)) .nil))) (.cons (.var 0) .nil)))) .nil)
/-- next_numbers(numbers, bend) [numbers bend under back one two] -/
def c33 : CSs := (.cons (.asg 2 (.call 10 (.cons (.glo 1) (.cons (.call 11 (.cons (.var 1) (.cons (.var 1) .nil))) .nil)))) (.cons (.asg 3 (.rev (.var 0))) (.cons (.ret (.comp (.tup (.cons (.one 4) (.cons (.one 5) .nil))) [4, 5] (.zip (.slH (.var 0) (.neg (.int 1))) (.var 3)) (.bl true) (.call 12 (.cons (.call 10 (.cons (.var 4) (.cons (.call 11 (.cons (.var 1) (.cons (.var 5) .nil))) .nil))) (.cons (.var 2) .nil))))) .nil)))
/-- bends_by(row) [row numbers found bend] -/
def c34 : CSs := (.cons (.iff (.cmp .eq (.idx (.var 0) (.int 0)) (.glo 0)) (.cons (.ret .non) .nil) .nil) (.cons (.par [1, 2] (.cons (.blt .list (.cons (.call 32 (.cons (.var 0) .nil)) .nil)) (.cons (.lst .nil) .nil))) (.cons (.whl (.cmp .gt (.blt .len (.cons (.var 1) .nil)) (.int 1)) (.cons (.asg 3 (.idx (.var 1) (.neg (.int 1)))) (.cons (.iff (.cmp .ge (.blt .abs (.cons (.idx (.var 3) (.int 0)) .nil)) (.idx (.var 3) (.int 1))) (.cons (.ret .non) .nil) .nil) (.cons (.app 2 (.var 3)) (.cons (.asg 1 (.call 33 (.cons (.var 1) (.cons (.var 3) .nil)))) .nil))))) (.cons (.ret (.blt .tuple (.cons (.var 2) .nil))) .nil))))
/-- is_steady_by(row) [row] -/
def c35 : CSs := (.cons (.ret (.and (.cmp .ne (.var 0) (.tup .nil)) (.notN (.call 34 (.cons (.var 0) .nil))))) .nil)
/-- normal_of(top, under) [top under common by] -/
def c36 : CSs := (.cons (.iff (.cmp .eq (.var 0) (.tup .nil)) (.cons (.ret (.tup (.cons (.tup .nil) (.cons (.glo 2) .nil)))) .nil) .nil) (.cons (.asg 2 (.call 28 (.cons (.var 0) (.cons (.var 1) .nil)))) (.cons (.par [0, 1] (.cons (.call 25 (.cons (.var 0) (.cons (.var 2) .nil))) (.cons (.call 25 (.cons (.var 1) (.cons (.var 2) .nil))) .nil))) (.cons (.asg 3 (.call 12 (.cons (.glo 1) (.cons (.idx (.var 1) (.int 0)) .nil)))) (.cons (.ret (.tup (.cons (.call 21 (.cons (.var 3) (.cons (.var 0) .nil))) (.cons (.call 21 (.cons (.var 3) (.cons (.var 1) .nil))) .nil)))) .nil)))))
/-- product_by(one, two) [one two] -/
def c37 : CSs := (.cons (.ret (.call 36 (.cons (.call 23 (.cons (.idx (.var 0) (.int 0)) (.cons (.idx (.var 1) (.int 0)) .nil))) (.cons (.call 23 (.cons (.idx (.var 0) (.int 1)) (.cons (.idx (.var 1) (.int 1)) .nil))) .nil)))) .nil)
/-- is_row(value) [value each] -/
def c38 : CSs := (.cons (.iff (.or (.not (.blt .isTup (.cons (.var 0) .nil))) (.not (.blt .all (.cons (.comp (.one 1) [1] (.seq (.var 0)) (.bl true) (.call 7 (.cons (.var 1) .nil))) .nil)))) (.cons (.ret (.bl false)) .nil) .nil) (.cons (.ret (.or (.cmp .eq (.var 0) (.tup .nil)) (.cmp .ne (.idx (.var 0) (.neg (.int 1))) (.glo 0)))) .nil))
/-- is_led(value) [value] -/
def c39 : CSs := (.cons (.ret (.and (.call 38 (.cons (.var 0) .nil)) (.call 31 (.cons (.var 0) .nil)))) .nil)
/-- check_filled(value) [value] -/
def c40 : CSs := (.cons (.iff (.or (.not (.call 38 (.cons (.var 0) .nil))) (.cmp .eq (.var 0) (.tup .nil))) (.cons .stuck .nil) .nil) .nil)
/-- is_answer(value) [value] -/
def c41 : CSs := (.cons (.iff (.or (.not (.blt .isTup (.cons (.var 0) .nil))) (.or (.cmp .ne (.blt .len (.cons (.var 0) .nil)) (.int 2)) (.or (.not (.call 38 (.cons (.idx (.var 0) (.int 0)) .nil))) (.not (.call 39 (.cons (.idx (.var 0) (.int 1)) .nil)))))) (.cons (.ret (.bl false)) .nil) .nil) (.cons (.ret (.cmp .eq (.call 36 (.cons (.idx (.var 0) (.int 0)) (.cons (.idx (.var 0) (.int 1)) .nil))) (.var 0))) .nil))
/-- check_answer(value) [value] -/
def c42 : CSs := (.cons (.iff (.not (.call 41 (.cons (.var 0) .nil))) (.cons .stuck .nil) .nil) .nil)
/-- is_machine(value) [value] -/
def c43 : CSs := (.cons (.iff (.or (.not (.blt .isTup (.cons (.var 0) .nil))) (.or (.cmp .ne (.blt .len (.cons (.var 0) .nil)) (.int 2)) (.or (.not (.call 38 (.cons (.idx (.var 0) (.int 0)) .nil))) (.not (.call 39 (.cons (.idx (.var 0) (.int 1)) .nil)))))) (.cons (.ret (.bl false)) .nil) .nil) (.cons (.ret (.and (.cmp .ne (.idx (.var 0) (.int 0)) (.tup .nil)) (.cmp .eq (.idx (.idx (.var 0) (.int 0)) (.int 0)) (.glo 0)))) .nil))
/-- is_helm(value) [value] -/
def c44 : CSs := (.cons (.ret (.and (.blt .isTup (.cons (.var 0) .nil)) (.and (.cmp .eq (.blt .len (.cons (.var 0) .nil)) (.int 2)) (.and (.call 38 (.cons (.idx (.var 0) (.int 0)) .nil)) (.call 39 (.cons (.idx (.var 0) (.int 1)) .nil)))))) .nil)
/-- check_machine(value) [value] -/
def c45 : CSs := (.cons (.iff (.not (.call 43 (.cons (.var 0) .nil))) (.cons .stuck .nil) .nil) .nil)
/-- check_helm(value) [value] -/
def c46 : CSs := (.cons (.iff (.not (.call 44 (.cons (.var 0) .nil))) (.cons .stuck .nil) .nil) .nil)
/-- check_pair(machine, helm) [machine helm] -/
def c47 : CSs := (.cons (.exc (.call 45 (.cons (.var 0) .nil))) (.cons (.exc (.call 46 (.cons (.var 1) .nil))) .nil))
/-- size_by(pair) [pair] -/
def c48 : CSs := (.cons (.ret (.blt .max2 (.cons (.call 18 (.cons (.idx (.var 0) (.int 0)) .nil)) (.cons (.call 18 (.cons (.idx (.var 0) (.int 1)) .nil)) .nil)))) .nil)
/-- hidden_by(machine) [machine] -/
def c49 : CSs := (.cons (.ret (.call 28 (.cons (.idx (.var 0) (.int 0)) (.cons (.idx (.var 0) (.int 1)) .nil)))) .nil)
/-- core_by(machine) [machine hidden] -/
def c50 : CSs := (.cons (.asg 1 (.call 49 (.cons (.var 0) .nil))) (.cons (.ret (.tup (.cons (.call 25 (.cons (.idx (.var 0) (.int 0)) (.cons (.var 1) .nil))) (.cons (.call 25 (.cons (.idx (.var 0) (.int 1)) (.cons (.var 1) .nil))) .nil)))) .nil))
/-- is_reached(machine) [machine] -/
def c51 : CSs := (.cons (.ret (.call 35 (.cons (.call 49 (.cons (.var 0) .nil)) .nil))) .nil)
/-- hidden_part(machine) [machine] -/
def c52 : CSs := (.cons (.exc (.call 45 (.cons (.var 0) .nil))) (.cons (.ret (.call 49 (.cons (.var 0) .nil))) .nil))
/-- closing_by(machine, helm) [machine helm] -/
def c54 : CSs := (.cons (.ret (.call 20 (.cons (.call 23 (.cons (.idx (.var 0) (.int 1)) (.cons (.idx (.var 1) (.int 1)) .nil))) (.cons (.call 23 (.cons (.idx (.var 0) (.int 0)) (.cons (.idx (.var 1) (.int 0)) .nil))) .nil)))) .nil)
/-- is_closed_steady(machine, helm) [machine helm] -/
def c55 : CSs := (.cons (.ret (.call 35 (.cons (.call 54 (.cons (.var 0) (.cons (.var 1) .nil))) .nil))) .nil)
/-- base_by(core) [core] -/
def c57 : CSs := (.cons (.ret (.call 29 (.cons (.idx (.var 0) (.int 0)) (.cons (.idx (.var 0) (.int 1)) .nil)))) .nil)
/-- free_by(core, helm) [core helm first second upper lower] -/
def c58 : CSs := (.cons (.unp (.cons (.one 2) (.cons (.one 3) .nil)) (.call 57 (.cons (.var 0) .nil))) (.cons (.unp (.cons (.one 4) (.cons (.one 5) .nil)) (.call 36 (.cons (.idx (.var 1) (.int 0)) (.cons (.idx (.var 1) (.int 1)) .nil)))) (.cons (.ret (.call 36 (.cons (.call 22 (.cons (.call 23 (.cons (.var 4) (.cons (.var 3) .nil))) (.cons (.call 23 (.cons (.var 5) (.cons (.var 2) .nil))) .nil))) (.cons (.call 54 (.cons (.var 0) (.cons (.tup (.cons (.var 4) (.cons (.var 5) .nil))) .nil))) .nil)))) .nil)))
/-- error_by(machine, helm) [machine helm] -/
def c59 : CSs := (.cons (.ret (.call 36 (.cons (.call 23 (.cons (.idx (.var 0) (.int 1)) (.cons (.idx (.var 1) (.int 1)) .nil))) (.cons (.call 54 (.cons (.var 0) (.cons (.var 1) .nil))) .nil)))) .nil)
/-- left_by(core, rule) [core rule] -/
def c61 : CSs := (.cons (.ret (.call 25 (.cons (.var 1) (.cons (.call 28 (.cons (.var 1) (.cons (.idx (.var 0) (.int 1)) .nil))) .nil)))) .nil)
/-- is_followed(machine, helm, rule) [machine helm rule] -/
def c62 : CSs := (.cons (.ret (.call 35 (.cons (.call 25 (.cons (.var 2) (.cons (.call 28 (.cons (.var 2) (.cons (.call 23 (.cons (.idx (.var 0) (.int 1)) (.cons (.idx (.var 1) (.int 1)) .nil))) .nil))) .nil))) .nil))) .nil)
/-- is_followable(machine, rule) [machine rule core] -/
def c63 : CSs := (.cons (.iff (.not (.call 35 (.cons (.call 49 (.cons (.var 0) .nil)) .nil))) (.cons (.ret (.bl false)) .nil) .nil) (.cons (.asg 2 (.call 50 (.cons (.var 0) .nil))) (.cons (.ret (.call 35 (.cons (.call 28 (.cons (.idx (.var 2) (.int 0)) (.cons (.call 61 (.cons (.var 2) (.cons (.var 1) .nil))) .nil))) .nil))) .nil)))
/-- is_number_one(row) [row] -/
def c64 : CSs := (.cons (.ret (.cmp .eq (.var 0) (.tup (.cons (.glo 1) .nil)))) .nil)
/-- check_wished(value) [value] -/
def c65 : CSs := (.cons (.iff (.not (.call 39 (.cons (.var 0) .nil))) (.cons .stuck .nil) .nil) .nil)
/-- check_reached(machine) [machine] -/
def c66 : CSs := (.cons (.iff (.not (.call 51 (.cons (.var 0) .nil))) (.cons .stuck .nil) .nil) .nil)
/-- base_helm(machine) [machine] -/
def c67 : CSs := (.cons (.exc (.call 45 (.cons (.var 0) .nil))) (.cons (.exc (.call 66 (.cons (.var 0) .nil))) (.cons (.ret (.call 57 (.cons (.call 50 (.cons (.var 0) .nil)) .nil))) .nil)))
/-- free_answer(machine, helm) [machine helm] -/
def c68 : CSs := (.cons (.exc (.call 47 (.cons (.var 0) (.cons (.var 1) .nil)))) (.cons (.exc (.call 66 (.cons (.var 0) .nil))) (.cons (.iff (.not (.call 55 (.cons (.var 0) (.cons (.var 1) .nil)))) (.cons .stuck .nil) .nil) (.cons (.ret (.call 58 (.cons (.call 50 (.cons (.var 0) .nil)) (.cons (.var 1) .nil)))) .nil))))
/-- sizes_by(row) [row each] -/
def c82 : CSs := (.cons (.ret (.call 13 (.cons (.comp (.one 1) [1] (.seq (.var 0)) (.bl true) (.call 15 (.cons (.var 1) .nil))) .nil))) .nil)
/-- bounds_by(answer, row) [answer row top under share upper] -/
def c83 : CSs := (.cons (.unp (.cons (.one 2) (.cons (.one 3) .nil)) (.var 0)) (.cons (.asg 4 (.call 82 (.cons (.call 22 (.cons (.glo 2) (.cons (.call 23 (.cons (.var 3) (.cons (.var 1) .nil))) .nil))) .nil))) (.cons (.iff (.not (.call 14 (.cons (.var 4) (.cons (.glo 1) .nil)))) (.cons (.ret .non) .nil) .nil) (.cons (.asg 5 (.call 82 (.cons (.call 23 (.cons (.var 2) (.cons (.var 1) .nil))) .nil))) (.cons (.ret (.tup (.cons (.call 12 (.cons (.var 5) (.cons (.call 9 (.cons (.glo 1) (.cons (.var 4) .nil))) .nil))) (.cons (.call 12 (.cons (.var 5) (.cons (.call 10 (.cons (.glo 1) (.cons (.var 4) .nil))) .nil))) .nil)))) .nil)))))
/-- check_x(value) [value] -/
def c93 : CSs := (.cons (.iff (.or (.not (.call 7 (.cons (.var 0) .nil))) (.cmp .gt (.blt .abs (.cons (.idx (.var 0) (.int 0)) .nil)) (.idx (.var 0) (.int 1)))) (.cons .stuck .nil) .nil) .nil)
/-- sum_by_zeros(core, x) [core x] -/
def c94 : CSs := (.cons (.iff (.cmp .eq (.call 30 (.cons (.idx (.var 0) (.int 0)) (.cons (.var 1) .nil))) (.glo 0)) (.cons (.ret (.glo 1)) .nil) .nil) (.cons (.ret (.ite (.cmp .eq (.call 30 (.cons (.idx (.var 0) (.int 1)) (.cons (.var 1) .nil))) (.glo 0)) (.glo 0) .non)) .nil))
/-- fixed_sum(machine, x) [machine x] -/
def c96 : CSs := (.cons (.exc (.call 45 (.cons (.var 0) .nil))) (.cons (.exc (.call 93 (.cons (.var 1) .nil))) (.cons (.exc (.call 66 (.cons (.var 0) .nil))) (.cons (.ret (.call 94 (.cons (.call 50 (.cons (.var 0) .nil)) (.cons (.var 1) .nil)))) .nil))))
/-- check_start(value, size) [value size] -/
def c97 : CSs := (.cons (.iff (.or (.not (.call 38 (.cons (.var 0) .nil))) (.cmp .gt (.blt .len (.cons (.var 0) .nil)) (.var 1))) (.cons .stuck .nil) .nil) .nil)
/-- started_by(machine, helm, start, turn) [machine helm start turn n m a b c upper lower] -/
def c98 : CSs := (.cons (.unp (.cons (.tup (.cons (.one 4) (.cons (.one 5) .nil))) (.cons (.tup (.cons (.one 6) (.cons (.one 7) .nil))) (.cons (.one 8) .nil))) (.tup (.cons (.var 0) (.cons (.var 1) (.cons (.call 54 (.cons (.var 0) (.cons (.var 1) .nil))) .nil))))) (.cons (.asg 9 (.call 20 (.cons (.call 23 (.cons (.var 4) (.cons (.var 3) .nil))) (.cons (.call 23 (.cons (.var 7) (.cons (.var 2) .nil))) .nil)))) (.cons (.asg 10 (.call 22 (.cons (.call 23 (.cons (.var 5) (.cons (.var 3) .nil))) (.cons (.call 23 (.cons (.var 6) (.cons (.var 2) .nil))) .nil)))) (.cons (.ret (.tup (.cons (.call 36 (.cons (.var 9) (.cons (.var 8) .nil))) (.cons (.call 36 (.cons (.var 10) (.cons (.var 8) .nil))) .nil)))) .nil))))
/-- earliest_by(machine) [machine] -/
def c100 : CSs := (.cons (.iff (.not (.call 64 (.cons (.call 49 (.cons (.var 0) .nil)) .nil))) (.cons (.ret .non) .nil) .nil) (.cons (.ret (.bin .add (.call 48 (.cons (.var 0) .nil)) (.call 48 (.cons (.call 57 (.cons (.call 50 (.cons (.var 0) .nil)) .nil)) .nil)))) .nil))
/-- closing_row(machine, helm) [machine helm] -/
def c101 : CSs := (.cons (.exc (.call 47 (.cons (.var 0) (.cons (.var 1) .nil)))) (.cons (.ret (.call 54 (.cons (.var 0) (.cons (.var 1) .nil)))) .nil))
/-- is_steady_loop(machine, helm) [machine helm] -/
def c102 : CSs := (.cons (.exc (.call 47 (.cons (.var 0) (.cons (.var 1) .nil)))) (.cons (.ret (.call 55 (.cons (.var 0) (.cons (.var 1) .nil)))) .nil))
/-- last_beat(machine, helm) [machine helm] -/
def c103 : CSs := (.cons (.exc (.call 47 (.cons (.var 0) (.cons (.var 1) .nil)))) (.cons (.ret (.ite (.call 64 (.cons (.call 54 (.cons (.var 0) (.cons (.var 1) .nil))) .nil)) (.bin .add (.call 48 (.cons (.var 0) .nil)) (.call 48 (.cons (.var 1) .nil))) .non)) .nil))
/-- fewest_beats(machine) [machine] -/
def c104 : CSs := (.cons (.exc (.call 45 (.cons (.var 0) .nil))) (.cons (.ret (.call 100 (.cons (.var 0) .nil))) .nil))
/-- is_rule(value) [value] -/
def c116 : CSs := (.cons (.ret (.and (.call 39 (.cons (.var 0) .nil)) (.cmp .gt (.blt .len (.cons (.var 0) .nil)) (.int 1)))) .nil)
/-- check_rule(value) [value] -/
def c117 : CSs := (.cons (.iff (.not (.call 116 (.cons (.var 0) .nil))) (.cons .stuck .nil) .nil) .nil)
/-- check_steady(machine, helm) [machine helm] -/
def c118 : CSs := (.cons (.iff (.not (.call 55 (.cons (.var 0) (.cons (.var 1) .nil)))) (.cons .stuck .nil) .nil) .nil)
/-- follows(machine, helm, rule) [machine helm rule] -/
def c119 : CSs := (.cons (.exc (.call 47 (.cons (.var 0) (.cons (.var 1) .nil)))) (.cons (.exc (.call 117 (.cons (.var 2) .nil))) (.cons (.exc (.call 118 (.cons (.var 0) (.cons (.var 1) .nil)))) (.cons (.ret (.call 62 (.cons (.var 0) (.cons (.var 1) (.cons (.var 2) .nil))))) .nil))))
/-- can_follow(machine, rule) [machine rule] -/
def c120 : CSs := (.cons (.exc (.call 45 (.cons (.var 0) .nil))) (.cons (.exc (.call 117 (.cons (.var 1) .nil))) (.cons (.ret (.call 63 (.cons (.var 0) (.cons (.var 1) .nil)))) .nil)))
/-- _law_cask(script, turn) [script turn own mixed cell seed] -/
def c143 : CSs := (.cons (.asg 2 (.ite (.cmp .lt (.var 1) (.sl 0)) (.blt .int (.cons (.sg 0 (.var 1)) .nil)) (.bin .add (.bin .mul (.int 41) (.var 1)) (.int 11)))) (.cons (.asg 3 (.bin .add (.int 91009) (.bin .mul (.int 4001) (.var 1)))) (.cons (.for_ (.one 4) (.ss 0 (.int 9)) (.cons (.asg 3 (.bin .mod (.blt .int (.cons (.bin .add (.bin .add (.bin .mul (.var 3) (.int 58013)) (.bin .mod (.blt .int (.cons (.var 4) .nil)) (.int 2147483579))) (.int 23)) .nil)) (.int 2147483647))) .nil)) (.cons (.asg 5 (.bin .mod (.blt .int (.cons (.bin .add (.bin .mul (.var 3) (.int 37)) (.bin .mul (.bin .mod (.blt .int (.cons (.var 2) .nil)) (.int 2147483579)) (.int 30013))) .nil)) (.int 2147483647))) (.cons (.ret (.lst (.cons (.ite (.or (.cmp .lt (.var 2) (.int 0)) (.cmp .ge (.var 2) (.bin .pow (.int 10) (.int 16)))) (.blt .abs (.cons (.var 2) .nil)) (.int 0)) (.cons (.var 5) (.cons (.int 0) .nil))))) .nil)))))
/-- _law_tap(cask, top) [cask top digit step] -/
def c144 : CSs := (.cons (.iff (.cmp .gt (.ck 0 0) (.int 0)) (.cons (.ckD 0 2 (.var 1)) (.cons (.ret (.var 2)) .nil)) .nil) (.cons (.ckS 0 2 (.bin .add (.ck 0 2) (.int 1))) (.cons (.asg 3 (.bin .add (.bin .mod (.blt .int (.cons (.ck 0 1) .nil)) (.int 40009)) (.int 20021))) (.cons (.ckS 0 1 (.bin .mod (.blt .int (.cons (.bin .add (.bin .add (.bin .mul (.ck 0 1) (.var 3)) (.bin .mul (.int 60013) (.ck 0 2))) (.int 5)) .nil)) (.int 2147483647))) (.cons (.ret (.bin .mod (.blt .int (.cons (.bin .fdiv (.ck 0 1) (.int 101)) .nil)) (.var 1))) .nil)))))
/-- _law_of(cask, some) [cask some] -/
def c145 : CSs := (.cons (.ret (.idx (.var 1) (.callC 144 0 (.cons (.blt .len (.cons (.var 1) .nil)) .nil)))) .nil)
/-- _law_f(up, low) [up low one two turn] -/
def c146 : CSs := (.cons (.iff (.cmp .lt (.var 1) (.int 0)) (.cons (.par [0, 1] (.cons (.bin .sub (.int 0) (.var 0)) (.cons (.bin .sub (.int 0) (.var 1)) .nil))) .nil) .nil) (.cons (.par [2, 3] (.cons (.blt .abs (.cons (.var 0) .nil)) (.cons (.var 1) .nil))) (.cons (.for_ (.one 4) (.rng (.bin .add (.bin .mul (.int 2) (.blt .bits (.cons (.var 1) .nil))) (.int 3))) (.cons (.iff (.cmp .eq (.var 3) (.int 0)) (.cons .brk .nil) .nil) (.cons (.par [2, 3] (.cons (.var 3) (.cons (.bin .mod (.blt .int (.cons (.var 2) .nil)) (.var 3)) .nil))) .nil))) (.cons (.ret (.tup (.cons (.bin .fdiv (.var 0) (.var 2)) (.cons (.bin .fdiv (.var 1) (.var 2)) .nil)))) .nil))))
/-- _law_add(a, b) [a b] -/
def c147 : CSs := (.cons (.ret (.call 146 (.cons (.bin .add (.bin .mul (.idx (.var 0) (.int 0)) (.idx (.var 1) (.int 1))) (.bin .mul (.idx (.var 1) (.int 0)) (.idx (.var 0) (.int 1)))) (.cons (.bin .mul (.idx (.var 0) (.int 1)) (.idx (.var 1) (.int 1))) .nil)))) .nil)
/-- _law_sub(a, b) [a b] -/
def c148 : CSs := (.cons (.ret (.call 146 (.cons (.bin .sub (.bin .mul (.idx (.var 0) (.int 0)) (.idx (.var 1) (.int 1))) (.bin .mul (.idx (.var 1) (.int 0)) (.idx (.var 0) (.int 1)))) (.cons (.bin .mul (.idx (.var 0) (.int 1)) (.idx (.var 1) (.int 1))) .nil)))) .nil)
/-- _law_mul(a, b) [a b] -/
def c149 : CSs := (.cons (.ret (.call 146 (.cons (.bin .mul (.idx (.var 0) (.int 0)) (.idx (.var 1) (.int 0))) (.cons (.bin .mul (.idx (.var 0) (.int 1)) (.idx (.var 1) (.int 1))) .nil)))) .nil)
/-- _law_div(a, b) [a b] -/
def c150 : CSs := (.cons (.ret (.call 146 (.cons (.bin .mul (.idx (.var 0) (.int 0)) (.idx (.var 1) (.int 1))) (.cons (.bin .mul (.idx (.var 0) (.int 1)) (.idx (.var 1) (.int 0))) .nil)))) .nil)
/-- _law_trim(some) [some many at] -/
def c151 : CSs := (.cons (.asg 1 (.int 0)) (.cons (.for_ (.one 2) (.rng (.blt .len (.cons (.var 0) .nil))) (.cons (.iff (.cmp .ne (.idx (.idx (.var 0) (.var 2)) (.int 0)) (.int 0)) (.cons (.asg 1 (.bin .add (.var 2) (.int 1))) .nil) .nil) .nil)) (.cons (.ret (.blt .tuple (.cons (.slH (.var 0) (.var 1)) .nil))) .nil)))
/-- _law_plus(one, two) [one two found at a] -/
def c152 : CSs := (.cons (.asg 2 (.lst .nil)) (.cons (.for_ (.one 3) (.rng (.blt .max2 (.cons (.blt .len (.cons (.var 0) .nil)) (.cons (.blt .len (.cons (.var 1) .nil)) .nil)))) (.cons (.asg 4 (.ite (.cmp .lt (.var 3) (.blt .len (.cons (.var 0) .nil))) (.idx (.var 0) (.var 3)) (.tup (.cons (.int 0) (.cons (.int 1) .nil))))) (.cons (.app 2 (.ite (.cmp .lt (.var 3) (.blt .len (.cons (.var 1) .nil))) (.call 147 (.cons (.var 4) (.cons (.idx (.var 1) (.var 3)) .nil))) (.var 4))) .nil))) (.cons (.ret (.call 151 (.cons (.var 2) .nil))) .nil)))
/-- _law_by(one, number) [one number each] -/
def c153 : CSs := (.cons (.ret (.call 151 (.cons (.comp (.one 2) [2] (.seq (.var 0)) (.bl true) (.call 149 (.cons (.var 2) (.cons (.var 1) .nil)))) .nil))) .nil)
/-- _law_less(one, two) [one two] -/
def c154 : CSs := (.cons (.ret (.call 152 (.cons (.var 0) (.cons (.call 153 (.cons (.var 1) (.cons (.tup (.cons (.bin .sub (.int 0) (.int 1)) (.cons (.int 1) .nil))) .nil))) .nil)))) .nil)
/-- _law_times(one, two) [one two found at by] -/
def c155 : CSs := (.cons (.asg 2 (.bin .mul (.lst (.cons (.tup (.cons (.int 0) (.cons (.int 1) .nil))) .nil)) (.blt .max2 (.cons (.int 0) (.cons (.bin .sub (.bin .add (.blt .len (.cons (.var 0) .nil)) (.blt .len (.cons (.var 1) .nil))) (.int 1)) .nil))))) (.cons (.for_ (.one 3) (.rng (.blt .len (.cons (.var 0) .nil))) (.cons (.for_ (.one 4) (.rng (.blt .len (.cons (.var 1) .nil))) (.cons (.setI 2 (.bin .add (.var 3) (.var 4)) (.call 147 (.cons (.idx (.var 2) (.bin .add (.var 3) (.var 4))) (.cons (.call 149 (.cons (.idx (.var 0) (.var 3)) (.cons (.idx (.var 1) (.var 4)) .nil))) .nil)))) .nil)) .nil)) (.cons (.ret (.call 151 (.cons (.var 2) .nil))) .nil)))
/-- _law_parted(one, two) [one two rest found turn at by] -/
def c156 : CSs := (.cons (.par [2, 3] (.cons (.blt .list (.cons (.var 0) .nil)) (.cons (.bin .mul (.lst (.cons (.tup (.cons (.int 0) (.cons (.int 1) .nil))) .nil)) (.blt .max2 (.cons (.int 0) (.cons (.bin .add (.bin .sub (.blt .len (.cons (.var 0) .nil)) (.blt .len (.cons (.var 1) .nil))) (.int 1)) .nil)))) .nil))) (.cons (.for_ (.one 4) (.rng (.blt .len (.cons (.var 3) .nil))) (.cons (.asg 5 (.bin .sub (.bin .sub (.blt .len (.cons (.var 3) .nil)) (.int 1)) (.var 4))) (.cons (.setI 3 (.var 5) (.call 150 (.cons (.idx (.var 2) (.bin .sub (.bin .add (.var 5) (.blt .len (.cons (.var 1) .nil))) (.int 1))) (.cons (.idx (.var 1) (.neg (.int 1))) .nil)))) (.cons (.for_ (.one 6) (.rng (.blt .len (.cons (.var 1) .nil))) (.cons (.setI 2 (.bin .add (.var 5) (.var 6)) (.call 148 (.cons (.idx (.var 2) (.bin .add (.var 5) (.var 6))) (.cons (.call 149 (.cons (.idx (.var 3) (.var 5)) (.cons (.idx (.var 1) (.var 6)) .nil))) .nil)))) .nil)) .nil)))) (.cons (.ret (.tup (.cons (.call 151 (.cons (.var 3) .nil)) (.cons (.call 151 (.cons (.var 2) .nil)) .nil)))) .nil)))
/-- _law_lead(one) [one number each] -/
def c157 : CSs := (.cons (.for_ (.one 1) (.seq (.var 0)) (.cons (.iff (.cmp .ne (.idx (.var 1) (.int 0)) (.int 0)) (.cons (.ret (.blt .tuple (.cons (.comp (.one 2) [2] (.seq (.var 0)) (.bl true) (.call 150 (.cons (.var 2) (.cons (.var 1) .nil)))) .nil))) .nil) .nil) .nil)) (.cons (.ret (.tup .nil)) .nil))
/-- _law_common(one, two) [one two turn] -/
def c158 : CSs := (.cons (.for_ (.one 2) (.rng (.bin .add (.bin .add (.blt .len (.cons (.var 0) .nil)) (.blt .len (.cons (.var 1) .nil))) (.int 1))) (.cons (.iff (.cmp .eq (.var 1) (.tup .nil)) (.cons .brk .nil) .nil) (.cons (.par [0, 1] (.cons (.var 1) (.cons (.idx (.call 156 (.cons (.var 0) (.cons (.var 1) .nil))) (.int 1)) .nil))) .nil))) (.cons (.ret (.call 157 (.cons (.var 0) .nil))) .nil))
/-- _law_root(x) [x] -/
def c159 : CSs := (.cons (.ret (.tup (.cons (.tup (.cons (.int 1) (.cons (.int 1) .nil))) (.cons (.call 150 (.cons (.tup (.cons (.bin .sub (.int 0) (.int 1)) (.cons (.int 1) .nil))) (.cons (.var 0) .nil))) .nil)))) .nil)
/-- _law_made(zeros) [zeros found x] -/
def c160 : CSs := (.cons (.asg 1 (.tup (.cons (.tup (.cons (.int 1) (.cons (.int 1) .nil))) .nil))) (.cons (.for_ (.one 2) (.seq (.var 0)) (.cons (.asg 1 (.call 155 (.cons (.var 1) (.cons (.call 159 (.cons (.var 2) .nil)) .nil)))) .nil)) (.cons (.ret (.var 1)) .nil)))
/-- _law_bends(one) [one some found turn k j under i] -/
def c161 : CSs := (.cons (.iff (.cmp .eq (.idx (.idx (.var 0) (.int 0)) (.int 0)) (.int 0)) (.cons (.ret .non) .nil) .nil) (.cons (.par [1, 2] (.cons (.blt .list (.cons (.call 157 (.cons (.var 0) .nil)) .nil)) (.cons (.lst .nil) .nil))) (.cons (.for_ (.one 3) (.rng (.bin .sub (.blt .len (.cons (.var 0) .nil)) (.int 1))) (.cons (.par [4, 5] (.cons (.idx (.var 1) (.neg (.int 1))) (.cons (.bin .sub (.blt .len (.cons (.var 1) .nil)) (.int 1)) .nil))) (.cons (.iff (.cmp .ge (.blt .abs (.cons (.idx (.var 4) (.int 0)) .nil)) (.idx (.var 4) (.int 1))) (.cons (.ret .non) .nil) .nil) (.cons (.app 2 (.var 4)) (.cons (.asg 6 (.call 148 (.cons (.tup (.cons (.int 1) (.cons (.int 1) .nil))) (.cons (.call 149 (.cons (.var 4) (.cons (.var 4) .nil))) .nil)))) (.cons (.asg 1 (.comp (.one 7) [7] (.rng (.var 5)) (.bl true) (.call 150 (.cons (.call 148 (.cons (.idx (.var 1) (.var 7)) (.cons (.call 149 (.cons (.var 4) (.cons (.idx (.var 1) (.bin .sub (.var 5) (.var 7))) .nil))) .nil))) (.cons (.var 6) .nil))))) .nil)))))) (.cons (.ret (.blt .tuple (.cons (.var 2) .nil))) .nil))))
/-- _law_core(machine) [machine part] -/
def c162 : CSs := (.cons (.asg 1 (.call 158 (.cons (.idx (.var 0) (.int 0)) (.cons (.idx (.var 0) (.int 1)) .nil)))) (.cons (.ret (.tup (.cons (.var 1) (.cons (.idx (.call 156 (.cons (.idx (.var 0) (.int 0)) (.cons (.var 1) .nil))) (.int 0)) (.cons (.idx (.call 156 (.cons (.idx (.var 0) (.int 1)) (.cons (.var 1) .nil))) (.int 0)) .nil))))) .nil))
/-- _law_base(n, m) [n m one two e f turn part rest p] -/
def c163 : CSs := (.cons (.par [2, 3, 4, 5] (.cons (.var 0) (.cons (.var 1) (.cons (.tup (.cons (.tup (.cons (.int 1) (.cons (.int 1) .nil))) .nil)) (.cons (.tup .nil) .nil))))) (.cons (.for_ (.one 6) (.rng (.bin .add (.bin .add (.blt .len (.cons (.var 0) .nil)) (.blt .len (.cons (.var 1) .nil))) (.int 1))) (.cons (.iff (.cmp .eq (.var 3) (.tup .nil)) (.cons .brk .nil) .nil) (.cons (.unp (.cons (.one 7) (.cons (.one 8) .nil)) (.call 156 (.cons (.var 2) (.cons (.var 3) .nil)))) (.cons (.par [2, 3, 4, 5] (.cons (.var 3) (.cons (.var 8) (.cons (.var 5) (.cons (.call 154 (.cons (.var 4) (.cons (.call 155 (.cons (.var 7) (.cons (.var 5) .nil))) .nil))) .nil))))) .nil)))) (.cons (.asg 9 (.idx (.call 156 (.cons (.call 153 (.cons (.var 4) (.cons (.call 150 (.cons (.tup (.cons (.int 1) (.cons (.int 1) .nil))) (.cons (.idx (.var 2) (.int 0)) .nil))) .nil))) (.cons (.var 1) .nil))) (.int 1))) (.cons (.ret (.tup (.cons (.var 9) (.cons (.idx (.call 156 (.cons (.call 154 (.cons (.tup (.cons (.tup (.cons (.int 1) (.cons (.int 1) .nil))) .nil)) (.cons (.call 155 (.cons (.var 0) (.cons (.var 9) .nil))) .nil))) (.cons (.var 1) .nil))) (.int 0)) .nil)))) .nil))))
/-- _law_closing(machine, helm) [machine helm] -/
def c164 : CSs := (.cons (.ret (.call 152 (.cons (.call 155 (.cons (.idx (.var 0) (.int 1)) (.cons (.idx (.var 1) (.int 1)) .nil))) (.cons (.call 155 (.cons (.idx (.var 0) (.int 0)) (.cons (.idx (.var 1) (.int 0)) .nil))) .nil)))) .nil)
/-- _law_helm(n, m, wished) [n m wished p w a] -/
def c165 : CSs := (.cons (.unp (.cons (.one 3) (.cons (.one 4) .nil)) (.call 163 (.cons (.var 0) (.cons (.var 1) .nil)))) (.cons (.asg 5 (.idx (.call 156 (.cons (.call 155 (.cons (.var 3) (.cons (.var 2) .nil))) (.cons (.var 1) .nil))) (.int 1))) (.cons (.ret (.tup (.cons (.var 5) (.cons (.idx (.call 156 (.cons (.call 154 (.cons (.var 2) (.cons (.call 155 (.cons (.var 0) (.cons (.var 5) .nil))) .nil))) (.cons (.var 1) .nil))) (.int 0)) .nil)))) .nil)))
/-- _law_steady(cask, many) [cask many some turn menu k j wide i] -/
def c166 : CSs := (.cons (.asg 2 (.lst (.cons (.tup (.cons (.int 1) (.cons (.int 1) .nil))) .nil))) (.cons (.for_ (.one 3) (.rng (.var 1)) (.cons (.asg 4 (.lst (.cons (.tup (.cons (.int 1) (.cons (.int 2) .nil))) (.cons (.tup (.cons (.bin .sub (.int 0) (.int 1)) (.cons (.int 3) .nil))) (.cons (.tup (.cons (.int 2) (.cons (.int 3) .nil))) (.cons (.tup (.cons (.bin .sub (.int 0) (.int 1)) (.cons (.int 2) .nil))) (.cons (.tup (.cons (.int 1) (.cons (.int 5) .nil))) (.cons (.tup (.cons (.bin .sub (.int 0) (.int 3)) (.cons (.int 4) .nil))) .nil)))))))) (.cons (.par [5, 6] (.cons (.callC 145 0 (.cons (.ite (.cmp .eq (.var 3) (.bin .sub (.var 1) (.int 1))) (.var 4) (.bin .add (.var 4) (.lst (.cons (.tup (.cons (.int 0) (.cons (.int 1) .nil))) .nil)))) .nil)) (.cons (.blt .len (.cons (.var 2) .nil)) .nil))) (.cons (.asg 7 (.bin .add (.var 2) (.lst (.cons (.tup (.cons (.int 0) (.cons (.int 1) .nil))) .nil)))) (.cons (.asg 2 (.comp (.one 8) [8] (.rng (.bin .add (.var 6) (.int 1))) (.bl true) (.call 147 (.cons (.idx (.var 7) (.var 8)) (.cons (.call 149 (.cons (.var 5) (.cons (.idx (.var 7) (.bin .sub (.var 6) (.var 8))) .nil))) .nil))))) .nil))))) (.cons (.ret (.blt .tuple (.cons (.var 2) .nil))) .nil)))
/-- _law_drawn_machine(cask) [cask left zeros poles turn gain late n m way pairs] -/
def c167 : CSs := (.cons (.par [1, 2, 3] (.cons (.lst (.cons (.tup (.cons (.int 1) (.cons (.int 2) .nil))) (.cons (.tup (.cons (.int 2) (.cons (.int 1) .nil))) (.cons (.tup (.cons (.bin .sub (.int 0) (.int 1)) (.cons (.int 2) .nil))) (.cons (.tup (.cons (.int 1) (.cons (.int 3) .nil))) (.cons (.tup (.cons (.int 2) (.cons (.int 3) .nil))) (.cons (.tup (.cons (.int 3) (.cons (.int 1) .nil))) (.cons (.tup (.cons (.int 3) (.cons (.int 4) .nil))) (.cons (.tup (.cons (.bin .sub (.int 0) (.int 2)) (.cons (.int 1) .nil))) (.cons (.tup (.cons (.int 1) (.cons (.int 1) .nil))) .nil)))))))))) (.cons (.lst .nil) (.cons (.lst .nil) .nil)))) (.cons (.asg 1 (.bin .add (.var 1) (.lst (.cons (.tup (.cons (.bin .sub (.int 0) (.int 3)) (.cons (.int 2) .nil))) (.cons (.tup (.cons (.bin .sub (.int 0) (.int 1)) (.cons (.int 3) .nil))) (.cons (.tup (.cons (.bin .sub (.int 0) (.int 1)) (.cons (.int 1) .nil))) .nil)))))) (.cons (.for_ (.one 4) (.rng (.callC 145 0 (.cons (.lst (.cons (.int 1) (.cons (.int 0) (.cons (.int 1) (.cons (.int 2) .nil))))) .nil))) (.cons (.popA 2 1 (.callC 144 0 (.cons (.blt .len (.cons (.var 1) .nil)) .nil))) .nil)) (.cons (.for_ (.one 4) (.rng (.callC 145 0 (.cons (.lst (.cons (.int 1) (.cons (.int 2) (.cons (.int 1) (.cons (.int 0) .nil))))) .nil))) (.cons (.popA 3 1 (.callC 144 0 (.cons (.blt .len (.cons (.var 1) .nil)) .nil))) .nil)) (.cons (.asg 5 (.call 146 (.cons (.callC 145 0 (.cons (.lst (.cons (.int 1) (.cons (.int 2) (.cons (.bin .sub (.int 0) (.int 1)) (.cons (.int 3) (.cons (.bin .sub (.int 0) (.int 3)) .nil)))))) .nil)) (.cons (.bin .add (.int 1) (.callC 144 0 (.cons (.int 2) .nil))) .nil)))) (.cons (.asg 6 (.callC 145 0 (.cons (.lst (.cons (.tup (.cons (.tup (.cons (.int 0) (.cons (.int 1) .nil))) (.cons (.tup (.cons (.int 1) (.cons (.int 1) .nil))) .nil))) (.cons (.tup (.cons (.tup (.cons (.int 0) (.cons (.int 1) .nil))) (.cons (.tup (.cons (.int 1) (.cons (.int 1) .nil))) .nil))) (.cons (.tup (.cons (.tup (.cons (.int 0) (.cons (.int 1) .nil))) (.cons (.tup (.cons (.int 0) (.cons (.int 1) .nil))) (.cons (.tup (.cons (.int 1) (.cons (.int 1) .nil))) .nil)))) .nil)))) .nil))) (.cons (.par [7, 8, 9] (.cons (.call 153 (.cons (.call 155 (.cons (.var 6) (.cons (.call 160 (.cons (.var 2) .nil)) .nil))) (.cons (.var 5) .nil))) (.cons (.call 160 (.cons (.var 3) .nil)) (.cons (.callC 144 0 (.cons (.int 6) .nil)) .nil)))) (.cons (.asg 10 (.lst (.cons (.tup (.cons (.tup (.cons (.int 1) (.cons (.int 1) .nil))) (.cons (.tup (.cons (.int 1) (.cons (.int 1) .nil))) (.cons (.tup (.cons (.int 4) (.cons (.int 1) .nil))) .nil)))) (.cons (.tup (.cons (.tup (.cons (.int 1) (.cons (.int 1) .nil))) (.cons (.tup (.cons (.int 1) (.cons (.int 2) .nil))) (.cons (.tup (.cons (.int 1) (.cons (.int 4) .nil))) .nil)))) (.cons (.tup (.cons (.tup (.cons (.int 1) (.cons (.int 1) .nil))) (.cons (.tup (.cons (.int 0) (.cons (.int 1) .nil))) (.cons (.tup (.cons (.int 1) (.cons (.int 1) .nil))) .nil)))) .nil))))) (.cons (.iff (.cmp .eq (.var 9) (.int 0)) (.cons (.asg 8 (.call 155 (.cons (.var 8) (.cons (.callC 145 0 (.cons (.var 10) .nil)) .nil)))) .nil) .nil) (.cons (.iff (.cmp .eq (.var 9) (.int 1)) (.cons (.asg 7 (.call 155 (.cons (.var 7) (.cons (.callC 145 0 (.cons (.lst (.cons (.tup (.cons (.tup (.cons (.int 1) (.cons (.int 1) .nil))) (.cons (.tup (.cons (.bin .sub (.int 0) (.int 1)) (.cons (.int 1) .nil))) (.cons (.tup (.cons (.int 2) (.cons (.int 1) .nil))) .nil)))) (.cons (.tup (.cons (.tup (.cons (.int 1) (.cons (.int 1) .nil))) (.cons (.tup (.cons (.int 0) (.cons (.int 1) .nil))) (.cons (.tup (.cons (.int 1) (.cons (.int 9) .nil))) .nil)))) .nil))) .nil)) .nil)))) .nil) .nil) (.cons (.ret (.tup (.cons (.var 7) (.cons (.var 8) (.cons (.var 2) (.cons (.var 3) .nil)))))) .nil)))))))))))
/-- _law_drawn_helm(cask, n, m) [cask n m wished a b more] -/
def c169 : CSs := (.cons (.asg 3 (.callC 166 0 (.cons (.callC 145 0 (.cons (.lst (.cons (.int 0) (.cons (.int 1) (.cons (.int 1) (.cons (.int 2) .nil))))) .nil)) .nil))) (.cons (.unp (.cons (.one 4) (.cons (.one 5) .nil)) (.call 165 (.cons (.var 1) (.cons (.var 2) (.cons (.var 3) .nil))))) (.cons (.iff (.cmp .eq (.callC 144 0 (.cons (.int 4) .nil)) (.int 0)) (.cons (.asg 6 (.tup (.cons (.call 146 (.cons (.bin .sub (.callC 144 0 (.cons (.int 5) .nil)) (.int 2)) (.cons (.int 2) .nil))) (.cons (.tup (.cons (.int 1) (.cons (.int 1) .nil))) .nil)))) (.cons (.par [4, 5] (.cons (.call 152 (.cons (.var 4) (.cons (.call 155 (.cons (.var 2) (.cons (.var 6) .nil))) .nil))) (.cons (.call 154 (.cons (.var 5) (.cons (.call 155 (.cons (.var 1) (.cons (.var 6) .nil))) .nil))) .nil))) .nil)) .nil) (.cons (.ret (.tup (.cons (.tup (.cons (.var 4) (.cons (.var 5) .nil))) (.cons (.var 3) .nil)))) .nil))))
/-- _law_answer(top, under) [top under part] -/
def c171 : CSs := (.cons (.iff (.cmp .eq (.var 0) (.tup .nil)) (.cons (.ret (.tup (.cons (.tup .nil) (.cons (.tup (.cons (.tup (.cons (.int 1) (.cons (.int 1) .nil))) .nil)) .nil)))) .nil) .nil) (.cons (.asg 2 (.call 158 (.cons (.var 0) (.cons (.var 1) .nil)))) (.cons (.par [0, 1] (.cons (.idx (.call 156 (.cons (.var 0) (.cons (.var 2) .nil))) (.int 0)) (.cons (.idx (.call 156 (.cons (.var 1) (.cons (.var 2) .nil))) (.int 0)) .nil))) (.cons (.ret (.tup (.cons (.call 153 (.cons (.var 0) (.cons (.call 150 (.cons (.tup (.cons (.int 1) (.cons (.int 1) .nil))) (.cons (.idx (.var 1) (.int 0)) .nil))) .nil))) (.cons (.call 153 (.cons (.var 1) (.cons (.call 150 (.cons (.tup (.cons (.int 1) (.cons (.int 1) .nil))) (.cons (.idx (.var 1) (.int 0)) .nil))) .nil))) .nil)))) .nil))))
/-- least_by(machine, wished) [machine wished hidden core goal upper] -/
def c180 : CSs := (.cons (.asg 2 (.call 49 (.cons (.var 0) .nil))) (.cons (.iff (.not (.call 26 (.cons (.var 2) (.cons (.var 1) .nil)))) (.cons (.ret .non) .nil) .nil) (.cons (.par [3, 4] (.cons (.call 50 (.cons (.var 0) .nil)) (.cons (.call 25 (.cons (.var 1) (.cons (.var 2) .nil))) .nil))) (.cons (.asg 5 (.idx (.call 24 (.cons (.call 23 (.cons (.idx (.call 57 (.cons (.var 3) .nil)) (.int 0)) (.cons (.var 4) .nil))) (.cons (.idx (.var 3) (.int 1)) .nil))) (.int 1))) (.cons (.ret (.tup (.cons (.var 5) (.cons (.call 25 (.cons (.call 22 (.cons (.var 4) (.cons (.call 23 (.cons (.idx (.var 3) (.int 0)) (.cons (.var 5) .nil))) .nil))) (.cons (.idx (.var 3) (.int 1)) .nil))) .nil)))) .nil)))))
/-- least_helm(machine, wished) [machine wished] -/
def c181 : CSs := (.cons (.exc (.call 45 (.cons (.var 0) .nil))) (.cons (.exc (.call 65 (.cons (.var 1) .nil))) (.cons (.ret (.call 180 (.cons (.var 0) (.cons (.var 1) .nil)))) .nil)))
/-- follower_by(machine, rule) [machine rule core left first second] -/
def c191 : CSs := (.cons (.asg 2 (.call 50 (.cons (.var 0) .nil))) (.cons (.asg 3 (.call 61 (.cons (.var 2) (.cons (.var 1) .nil)))) (.cons (.unp (.cons (.one 4) (.cons (.one 5) .nil)) (.call 57 (.cons (.call 50 (.cons (.tup (.cons (.idx (.var 2) (.int 0)) (.cons (.call 23 (.cons (.idx (.var 2) (.int 1)) (.cons (.var 3) .nil))) .nil))) .nil)) .nil))) (.cons (.ret (.tup (.cons (.var 4) (.cons (.call 23 (.cons (.var 5) (.cons (.var 3) .nil))) .nil)))) .nil))))
/-- unfollowed_start(machine, helm, rule) [machine helm rule] -/
def c192 : CSs := (.cons (.exc (.call 47 (.cons (.var 0) (.cons (.var 1) .nil)))) (.cons (.exc (.call 117 (.cons (.var 2) .nil))) (.cons (.exc (.call 118 (.cons (.var 0) (.cons (.var 1) .nil)))) (.cons (.ret (.ite (.call 62 (.cons (.var 0) (.cons (.var 1) (.cons (.var 2) .nil)))) .non (.glo 2))) .nil))))
/-- following_helm(machine, rule) [machine rule] -/
def c193 : CSs := (.cons (.exc (.call 45 (.cons (.var 0) .nil))) (.cons (.exc (.call 117 (.cons (.var 1) .nil))) (.cons (.ret (.ite (.call 63 (.cons (.var 0) (.cons (.var 1) .nil))) (.call 191 (.cons (.var 0) (.cons (.var 1) .nil))) .non)) .nil)))
/-- _law_drawn_rule(cask) [cask menu found] -/
def c196 : CSs := (.cons (.asg 1 (.lst (.cons (.tup (.cons (.int 1) (.cons (.int 1) .nil))) (.cons (.tup (.cons (.int 1) (.cons (.int 1) .nil))) (.cons (.tup (.cons (.bin .sub (.int 0) (.int 1)) (.cons (.int 1) .nil))) (.cons (.tup (.cons (.int 1) (.cons (.int 2) .nil))) (.cons (.tup (.cons (.int 2) (.cons (.int 1) .nil))) (.cons (.tup (.cons (.bin .sub (.int 0) (.int 1)) (.cons (.int 2) .nil))) (.cons (.tup (.cons (.int 3) (.cons (.int 1) .nil))) (.cons (.tup (.cons (.int 1) (.cons (.int 3) .nil))) .nil)))))))))) (.cons (.asg 2 (.call 159 (.cons (.callC 145 0 (.cons (.var 1) .nil)) .nil))) (.cons (.iff (.cmp .eq (.callC 144 0 (.cons (.int 3) .nil)) (.int 0)) (.cons (.asg 2 (.call 155 (.cons (.var 2) (.cons (.call 159 (.cons (.callC 145 0 (.cons (.var 1) .nil)) .nil)) .nil)))) .nil) .nil) (.cons (.iff (.cmp .eq (.callC 144 0 (.cons (.int 8) .nil)) (.int 0)) (.cons (.asg 2 (.callC 145 0 (.cons (.lst (.cons (.tup (.cons (.tup (.cons (.int 1) (.cons (.int 1) .nil))) (.cons (.tup (.cons (.int 0) (.cons (.int 1) .nil))) (.cons (.tup (.cons (.int 1) (.cons (.int 1) .nil))) .nil)))) (.cons (.tup (.cons (.tup (.cons (.int 1) (.cons (.int 1) .nil))) (.cons (.tup (.cons (.int 1) (.cons (.int 2) .nil))) (.cons (.tup (.cons (.int 1) (.cons (.int 4) .nil))) .nil)))) .nil))) .nil))) .nil) .nil) (.cons (.ret (.var 2)) .nil)))))
/-- helm_by(core, free) [core free first second top under upper lower] -/
def c201 : CSs := (.cons (.unp (.cons (.one 2) (.cons (.one 3) .nil)) (.call 57 (.cons (.var 0) .nil))) (.cons (.unp (.cons (.one 4) (.cons (.one 5) .nil)) (.var 1)) (.cons (.asg 6 (.call 20 (.cons (.call 23 (.cons (.var 2) (.cons (.var 5) .nil))) (.cons (.call 23 (.cons (.idx (.var 0) (.int 1)) (.cons (.var 4) .nil))) .nil)))) (.cons (.asg 7 (.call 22 (.cons (.call 23 (.cons (.var 3) (.cons (.var 5) .nil))) (.cons (.call 23 (.cons (.idx (.var 0) (.int 0)) (.cons (.var 4) .nil))) .nil)))) (.cons (.ret (.call 36 (.cons (.var 6) (.cons (.var 7) .nil)))) .nil)))))
/-- _law_worth(one, x) [one x found turn] -/
def c207 : CSs := (.cons (.asg 2 (.tup (.cons (.int 0) (.cons (.int 1) .nil)))) (.cons (.for_ (.one 3) (.rng (.blt .len (.cons (.var 0) .nil))) (.cons (.asg 2 (.call 147 (.cons (.call 149 (.cons (.var 2) (.cons (.var 1) .nil))) (.cons (.idx (.var 0) (.bin .sub (.bin .sub (.blt .len (.cons (.var 0) .nil)) (.int 1)) (.var 3))) .nil)))) .nil)) (.cons (.ret (.var 2)) .nil)))
/-- _law_error(machine, pair) [machine pair] -/
def c208 : CSs := (.cons (.ret (.call 171 (.cons (.call 155 (.cons (.idx (.var 0) (.int 1)) (.cons (.idx (.var 1) (.int 1)) .nil))) (.cons (.call 164 (.cons (.var 0) (.cons (.var 1) .nil))) .nil)))) .nil)
/-- is_between(value, low, high) [value low high] -/
def c214 : CSs := (.cons (.ret (.and (.call 1 (.cons (.var 0) .nil)) (.and (.cmp .le (.var 1) (.var 0)) (.cmp .le (.var 0) (.var 2))))) .nil)
/-- numbers_by(answer, many) [answer many top under found place number at] -/
def c216 : CSs := (.cons (.unp (.cons (.one 2) (.cons (.one 3) .nil)) (.var 0)) (.cons (.asg 4 (.lst .nil)) (.cons (.for_ (.one 5) (.rng (.var 1)) (.cons (.asg 6 (.call 19 (.cons (.var 2) (.cons (.var 5) .nil)))) (.cons (.for_ (.one 7) (.rng2 (.int 1) (.bin .add (.blt .min2 (.cons (.var 5) (.cons (.bin .sub (.blt .len (.cons (.var 3) .nil)) (.int 1)) .nil))) (.int 1))) (.cons (.asg 6 (.call 10 (.cons (.var 6) (.cons (.call 11 (.cons (.idx (.var 3) (.var 7)) (.cons (.idx (.var 4) (.bin .sub (.var 5) (.var 7))) .nil))) .nil)))) .nil)) (.cons (.app 4 (.var 6)) .nil)))) (.cons (.ret (.blt .tuple (.cons (.var 4) .nil))) .nil))))
/-- check_many(value) [value] -/
def c228 : CSs := (.cons (.iff (.not (.call 214 (.cons (.var 0) (.cons (.int 1) (.cons (.glo 7) .nil))))) (.cons .stuck .nil) .nil) .nil)
/-- are_near(bounds, many) [bounds many] -/
def c229 : CSs := (.cons (.ret (.and (.notN (.var 0)) (.not (.call 14 (.cons (.tup (.cons (.int 1) (.cons (.var 1) .nil))) (.cons (.call 10 (.cons (.idx (.var 0) (.int 1)) (.cons (.idx (.var 0) (.int 0)) .nil))) .nil)))))) .nil)
/-- bounding_by(answer, many) [answer many row wanted] -/
def c230 : CSs := (.cons (.par [2, 3] (.cons (.glo 2) (.cons (.int 1) .nil))) (.cons (.whl (.not (.call 229 (.cons (.call 83 (.cons (.var 0) (.cons (.var 2) .nil))) (.cons (.var 1) .nil)))) (.cons (.asg 3 (.bin .mul (.int 2) (.var 3))) (.cons (.asg 2 (.call 17 (.cons (.call 216 (.cons (.tup (.cons (.glo 2) (.cons (.idx (.var 0) (.int 1)) .nil))) (.cons (.var 3) .nil))) .nil))) .nil))) (.cons (.ret (.var 2)) .nil)))
/-- worst_near(answer, many) [answer many] -/
def c231 : CSs := (.cons (.ret (.call 83 (.cons (.var 0) (.cons (.call 232 (.cons (.var 0) (.cons (.var 1) .nil))) .nil)))) .nil)
/-- worst_row(answer, many) [answer many] -/
def c232 : CSs := (.cons (.exc (.call 42 (.cons (.var 0) .nil))) (.cons (.exc (.call 228 (.cons (.var 1) .nil))) (.cons (.iff (.not (.call 35 (.cons (.idx (.var 0) (.int 1)) .nil))) (.cons .stuck .nil) .nil) (.cons (.ret (.call 230 (.cons (.var 0) (.cons (.var 1) .nil)))) .nil))))
/-- _law_sizes(one) [one found number] -/
def c240 : CSs := (.cons (.asg 1 (.tup (.cons (.int 0) (.cons (.int 1) .nil)))) (.cons (.for_ (.one 2) (.seq (.var 0)) (.cons (.asg 1 (.call 147 (.cons (.var 1) (.cons (.tup (.cons (.blt .abs (.cons (.idx (.var 2) (.int 0)) .nil)) (.cons (.idx (.var 2) (.int 1)) .nil))) .nil)))) .nil)) (.cons (.ret (.var 1)) .nil)))
/-- _law_calm(cask, many) [cask many some turn menu k j wide i] -/
def c246 : CSs := (.cons (.asg 2 (.lst (.cons (.tup (.cons (.int 1) (.cons (.int 1) .nil))) .nil))) (.cons (.for_ (.one 3) (.rng (.var 1)) (.cons (.asg 4 (.lst (.cons (.tup (.cons (.int 1) (.cons (.int 2) .nil))) (.cons (.tup (.cons (.bin .sub (.int 0) (.int 1)) (.cons (.int 3) .nil))) (.cons (.tup (.cons (.int 1) (.cons (.int 3) .nil))) (.cons (.tup (.cons (.bin .sub (.int 0) (.int 1)) (.cons (.int 2) .nil))) (.cons (.tup (.cons (.int 1) (.cons (.int 5) .nil))) .nil))))))) (.cons (.par [5, 6] (.cons (.callC 145 0 (.cons (.ite (.cmp .eq (.var 3) (.bin .sub (.var 1) (.int 1))) (.var 4) (.bin .add (.var 4) (.lst (.cons (.tup (.cons (.int 0) (.cons (.int 1) .nil))) .nil)))) .nil)) (.cons (.blt .len (.cons (.var 2) .nil)) .nil))) (.cons (.asg 7 (.bin .add (.var 2) (.lst (.cons (.tup (.cons (.int 0) (.cons (.int 1) .nil))) .nil)))) (.cons (.asg 2 (.comp (.one 8) [8] (.rng (.bin .add (.var 6) (.int 1))) (.bl true) (.call 147 (.cons (.idx (.var 7) (.var 8)) (.cons (.call 149 (.cons (.var 5) (.cons (.idx (.var 7) (.bin .sub (.var 6) (.var 8))) .nil))) .nil))))) .nil))))) (.cons (.ret (.blt .tuple (.cons (.var 2) .nil))) .nil)))
/-- _law_drawn_answer(cask) [cask top turn] -/
def c247 : CSs := (.cons (.asg 1 (.lst .nil)) (.cons (.for_ (.one 2) (.rng (.callC 144 0 (.cons (.int 4) .nil))) (.cons (.app 1 (.call 146 (.cons (.bin .sub (.callC 144 0 (.cons (.int 9) .nil)) (.int 4)) (.cons (.bin .add (.int 1) (.callC 144 0 (.cons (.int 3) .nil))) .nil)))) .nil)) (.cons (.ret (.call 171 (.cons (.call 151 (.cons (.var 1) .nil)) (.cons (.callC 246 0 (.cons (.callC 145 0 (.cons (.lst (.cons (.int 0) (.cons (.int 1) (.cons (.int 1) (.cons (.int 2) .nil))))) .nil)) .nil)) .nil)))) .nil)))
/-- _law_numbers(answer, many) [answer many top under found at number back] -/
def c249 : CSs := (.cons (.unp (.cons (.one 2) (.cons (.one 3) .nil)) (.var 0)) (.cons (.asg 4 (.lst .nil)) (.cons (.for_ (.one 5) (.rng (.var 1)) (.cons (.asg 6 (.ite (.cmp .lt (.var 5) (.blt .len (.cons (.var 2) .nil))) (.idx (.var 2) (.var 5)) (.tup (.cons (.int 0) (.cons (.int 1) .nil))))) (.cons (.for_ (.one 7) (.rng2 (.int 1) (.bin .add (.blt .min2 (.cons (.var 5) (.cons (.bin .sub (.blt .len (.cons (.var 3) .nil)) (.int 1)) .nil))) (.int 1))) (.cons (.asg 6 (.call 148 (.cons (.var 6) (.cons (.call 149 (.cons (.idx (.var 3) (.var 7)) (.cons (.idx (.var 4) (.bin .sub (.var 5) (.var 7))) .nil))) .nil)))) .nil)) (.cons (.app 4 (.var 6)) .nil)))) (.cons (.ret (.var 4)) .nil))))
/-- _law_is_upto(a, b) [a b] -/
def c257 : CSs := (.cons (.ret (.cmp .le (.bin .mul (.idx (.var 0) (.int 0)) (.idx (.var 1) (.int 1))) (.bin .mul (.idx (.var 1) (.int 0)) (.idx (.var 0) (.int 1))))) .nil)
/-- sum_by(one, two) [one two top] -/
def c284 : CSs := (.cons (.asg 2 (.call 20 (.cons (.call 23 (.cons (.idx (.var 0) (.int 0)) (.cons (.idx (.var 1) (.int 1)) .nil))) (.cons (.call 23 (.cons (.idx (.var 1) (.int 0)) (.cons (.idx (.var 0) (.int 1)) .nil))) .nil)))) (.cons (.ret (.call 36 (.cons (.var 2) (.cons (.call 23 (.cons (.idx (.var 0) (.int 1)) (.cons (.idx (.var 1) (.int 1)) .nil))) .nil)))) .nil))
/-- check_row(value) [value] -/
def c285 : CSs := (.cons (.iff (.not (.call 38 (.cons (.var 0) .nil))) (.cons .stuck .nil) .nil) .nil)
/-- check_rows(row, other) [row other] -/
def c286 : CSs := (.cons (.exc (.call 285 (.cons (.var 0) .nil))) (.cons (.exc (.call 285 (.cons (.var 1) .nil))) .nil))
/-- row_product(row, other) [row other] -/
def c287 : CSs := (.cons (.exc (.call 286 (.cons (.var 0) (.cons (.var 1) .nil)))) (.cons (.ret (.call 23 (.cons (.var 0) (.cons (.var 1) .nil)))) .nil))
/-- check_answers(answer, other) [answer other] -/
def c288 : CSs := (.cons (.exc (.call 42 (.cons (.var 0) .nil))) (.cons (.exc (.call 42 (.cons (.var 1) .nil))) .nil))
/-- answer_sum(answer, other) [answer other] -/
def c289 : CSs := (.cons (.exc (.call 288 (.cons (.var 0) (.cons (.var 1) .nil)))) (.cons (.ret (.call 284 (.cons (.var 0) (.cons (.var 1) .nil)))) .nil))
/-- answer_product(answer, other) [answer other] -/
def c290 : CSs := (.cons (.exc (.call 288 (.cons (.var 0) (.cons (.var 1) .nil)))) (.cons (.ret (.call 37 (.cons (.var 0) (.cons (.var 1) .nil)))) .nil))
/-- answer_over(answer, other) [answer other] -/
def c291 : CSs := (.cons (.exc (.call 288 (.cons (.var 0) (.cons (.var 1) .nil)))) (.cons (.iff (.cmp .eq (.call 19 (.cons (.idx (.var 1) (.int 0)) (.cons (.int 0) .nil))) (.glo 0)) (.cons .stuck .nil) .nil) (.cons (.ret (.call 36 (.cons (.call 23 (.cons (.idx (.var 0) (.int 0)) (.cons (.idx (.var 1) (.int 1)) .nil))) (.cons (.call 23 (.cons (.idx (.var 0) (.int 1)) (.cons (.idx (.var 1) (.int 0)) .nil))) .nil)))) .nil)))
/-- dies_out(answer) [answer] -/
def c292 : CSs := (.cons (.exc (.call 42 (.cons (.var 0) .nil))) (.cons (.ret (.call 35 (.cons (.idx (.var 0) (.int 1)) .nil))) .nil))
/-- answers_by(machine, helm) [machine helm n m a b c first second] -/
def c293 : CSs := (.cons (.unp (.cons (.tup (.cons (.one 2) (.cons (.one 3) .nil))) (.cons (.tup (.cons (.one 4) (.cons (.one 5) .nil))) (.cons (.one 6) .nil))) (.tup (.cons (.var 0) (.cons (.var 1) (.cons (.call 54 (.cons (.var 0) (.cons (.var 1) .nil))) .nil))))) (.cons (.par [7, 8] (.cons (.call 36 (.cons (.call 23 (.cons (.var 2) (.cons (.var 4) .nil))) (.cons (.var 6) .nil))) (.cons (.call 36 (.cons (.call 23 (.cons (.var 3) (.cons (.var 4) .nil))) (.cons (.var 6) .nil))) .nil))) (.cons (.ret (.tup (.cons (.var 7) (.cons (.var 8) (.cons (.call 36 (.cons (.call 23 (.cons (.var 2) (.cons (.var 5) .nil))) (.cons (.var 6) .nil))) (.cons (.tup (.cons (.call 21 (.cons (.glo 8) (.cons (.idx (.var 7) (.int 0)) .nil))) (.cons (.idx (.var 7) (.int 1)) .nil))) .nil)))))) .nil)))
/-- four_answers(machine, helm) [machine helm] -/
def c294 : CSs := (.cons (.exc (.call 47 (.cons (.var 0) (.cons (.var 1) .nil)))) (.cons (.ret (.call 293 (.cons (.var 0) (.cons (.var 1) .nil)))) .nil))
/-- error_answer(machine, helm) [machine helm] -/
def c295 : CSs := (.cons (.exc (.call 47 (.cons (.var 0) (.cons (.var 1) .nil)))) (.cons (.iff (.not (.call 55 (.cons (.var 0) (.cons (.var 1) .nil)))) (.cons .stuck .nil) .nil) (.cons (.ret (.call 59 (.cons (.var 0) (.cons (.var 1) .nil)))) .nil)))
/-- _law_with_hidden(cask, n, m) [cask n m part] -/
def c296 : CSs := (.cons (.asg 3 (.callC 145 0 (.cons (.lst (.cons (.tup (.cons (.tup (.cons (.int 1) (.cons (.int 1) .nil))) .nil)) (.cons (.tup (.cons (.tup (.cons (.int 1) (.cons (.int 1) .nil))) .nil)) (.cons (.tup (.cons (.tup (.cons (.int 1) (.cons (.int 1) .nil))) (.cons (.tup (.cons (.int 1) (.cons (.int 2) .nil))) .nil))) (.cons (.tup (.cons (.tup (.cons (.int 1) (.cons (.int 1) .nil))) (.cons (.tup (.cons (.bin .sub (.int 0) (.int 1)) (.cons (.int 5) .nil))) .nil))) (.cons (.tup (.cons (.tup (.cons (.int 1) (.cons (.int 1) .nil))) (.cons (.tup (.cons (.int 0) (.cons (.int 1) .nil))) (.cons (.tup (.cons (.int 1) (.cons (.int 4) .nil))) .nil)))) .nil)))))) .nil))) (.cons (.ret (.tup (.cons (.call 155 (.cons (.var 1) (.cons (.var 3) .nil))) (.cons (.call 155 (.cons (.var 2) (.cons (.var 3) .nil))) .nil)))) .nil))
/-- helm_of(machine, free) [machine free] -/
def c297 : CSs := (.cons (.exc (.call 45 (.cons (.var 0) .nil))) (.cons (.exc (.call 42 (.cons (.var 1) .nil))) (.cons (.exc (.call 66 (.cons (.var 0) .nil))) (.cons (.iff (.not (.call 35 (.cons (.idx (.var 1) (.int 1)) .nil))) (.cons .stuck .nil) .nil) (.cons (.ret (.call 201 (.cons (.call 50 (.cons (.var 0) .nil)) (.cons (.var 1) .nil)))) .nil)))))
/-- _law_drawn_free(cask) [cask top turn] -/
def c298 : CSs := (.cons (.asg 1 (.lst .nil)) (.cons (.for_ (.one 2) (.rng (.bin .add (.int 1) (.callC 144 0 (.cons (.int 2) .nil)))) (.cons (.app 1 (.call 146 (.cons (.bin .sub (.callC 144 0 (.cons (.int 7) .nil)) (.int 3)) (.cons (.bin .add (.int 1) (.callC 144 0 (.cons (.int 2) .nil))) .nil)))) .nil)) (.cons (.ret (.call 171 (.cons (.call 151 (.cons (.var 1) .nil)) (.cons (.callC 166 0 (.cons (.callC 145 0 (.cons (.lst (.cons (.int 0) (.cons (.int 0) (.cons (.int 1) (.cons (.int 2) .nil))))) .nil)) .nil)) .nil)))) .nil)))
/-- _law_mixed(one, two, share) [one two share rest top] -/
def c299 : CSs := (.cons (.asg 3 (.call 148 (.cons (.tup (.cons (.int 1) (.cons (.int 1) .nil))) (.cons (.var 2) .nil)))) (.cons (.asg 4 (.call 153 (.cons (.call 155 (.cons (.idx (.var 0) (.int 0)) (.cons (.idx (.var 1) (.int 1)) .nil))) (.cons (.var 2) .nil)))) (.cons (.ret (.call 171 (.cons (.call 152 (.cons (.var 4) (.cons (.call 153 (.cons (.call 155 (.cons (.idx (.var 1) (.int 0)) (.cons (.idx (.var 0) (.int 1)) .nil))) (.cons (.var 3) .nil))) .nil))) (.cons (.call 155 (.cons (.idx (.var 0) (.int 1)) (.cons (.idx (.var 1) (.int 1)) .nil))) .nil)))) .nil)))
/-- value_at(row, fraction) [row fraction] -/
def c300 : CSs := (.cons (.exc (.call 285 (.cons (.var 0) .nil))) (.cons (.iff (.not (.call 7 (.cons (.var 1) .nil))) (.cons .stuck .nil) .nil) (.cons (.ret (.call 30 (.cons (.var 0) (.cons (.var 1) .nil)))) .nil)))
/-- answer_of(row, other) [row other] -/
def c301 : CSs := (.cons (.exc (.call 285 (.cons (.var 0) .nil))) (.cons (.exc (.call 40 (.cons (.var 1) .nil))) (.cons (.iff (.cmp .eq (.idx (.var 1) (.int 0)) (.glo 0)) (.cons .stuck .nil) .nil) (.cons (.ret (.call 36 (.cons (.var 0) (.cons (.var 1) .nil)))) .nil))))
/-- whole_sum(answer) [answer] -/
def c302 : CSs := (.cons (.exc (.call 42 (.cons (.var 0) .nil))) (.cons (.iff (.not (.call 35 (.cons (.idx (.var 0) (.int 1)) .nil))) (.cons .stuck .nil) .nil) (.cons (.ret (.call 12 (.cons (.call 30 (.cons (.idx (.var 0) (.int 0)) (.cons (.glo 1) .nil))) (.cons (.call 30 (.cons (.idx (.var 0) (.int 1)) (.cons (.glo 1) .nil))) .nil)))) .nil)))
/-- shown_by(machine, helm, goal, push, start, turn) [machine helm goal push start turn to_y to_u push_y push_u own_y own_u y] -/
def c303 : CSs := (.cons (.unp (.cons (.one 6) (.cons (.one 7) (.cons (.one 8) (.cons (.one 9) .nil)))) (.call 293 (.cons (.var 0) (.cons (.var 1) .nil)))) (.cons (.unp (.cons (.one 10) (.cons (.one 11) .nil)) (.call 98 (.cons (.var 0) (.cons (.var 1) (.cons (.var 4) (.cons (.var 5) .nil)))))) (.cons (.asg 12 (.call 284 (.cons (.call 284 (.cons (.call 37 (.cons (.var 6) (.cons (.var 2) .nil))) (.cons (.call 37 (.cons (.var 8) (.cons (.var 3) .nil))) .nil))) (.cons (.var 10) .nil)))) (.cons (.ret (.tup (.cons (.var 12) (.cons (.call 284 (.cons (.call 284 (.cons (.call 37 (.cons (.var 7) (.cons (.var 2) .nil))) (.cons (.call 37 (.cons (.var 9) (.cons (.var 3) .nil))) .nil))) (.cons (.var 11) .nil))) .nil)))) .nil))))
/-- shown(machine, helm, goal, push, start, turn) [machine helm goal push start turn] -/
def c304 : CSs := (.cons (.exc (.call 47 (.cons (.var 0) (.cons (.var 1) .nil)))) (.cons (.exc (.call 42 (.cons (.var 2) .nil))) (.cons (.exc (.call 42 (.cons (.var 3) .nil))) (.cons (.exc (.call 97 (.cons (.var 4) (.cons (.call 48 (.cons (.var 0) .nil)) .nil)))) (.cons (.exc (.call 97 (.cons (.var 5) (.cons (.call 48 (.cons (.var 1) .nil)) .nil)))) (.cons (.ret (.call 303 (.cons (.var 0) (.cons (.var 1) (.cons (.var 2) (.cons (.var 3) (.cons (.var 4) (.cons (.var 5) .nil)))))))) .nil))))))
/-- least_peak(machine, x) [machine x] -/
def c311 : CSs := (.cons (.exc (.call 45 (.cons (.var 0) .nil))) (.cons (.exc (.call 310 (.cons (.var 1) .nil))) (.cons (.exc (.call 66 (.cons (.var 0) .nil))) (.cons (.iff (.cmp .ne (.call 30 (.cons (.idx (.call 50 (.cons (.var 0) .nil)) (.int 1)) (.cons (.var 1) .nil))) (.glo 0)) (.cons .stuck .nil) .nil) (.cons (.ret (.call 12 (.cons (.glo 1) (.cons (.var 1) .nil)))) .nil)))))
/-- size_of(machine) [machine] -/
def c313 : CSs := (.cons (.exc (.call 45 (.cons (.var 0) .nil))) (.cons (.ret (.call 48 (.cons (.var 0) .nil))) .nil))
/-- helm_size(helm) [helm] -/
def c314 : CSs := (.cons (.exc (.call 46 (.cons (.var 0) .nil))) (.cons (.ret (.call 48 (.cons (.var 0) .nil))) .nil))
/-- core_of(machine) [machine] -/
def c315 : CSs := (.cons (.exc (.call 45 (.cons (.var 0) .nil))) (.cons (.ret (.call 50 (.cons (.var 0) .nil))) .nil))
/-- rule_left(machine, rule) [machine rule] -/
def c378 : CSs := (.cons (.exc (.call 45 (.cons (.var 0) .nil))) (.cons (.exc (.call 117 (.cons (.var 1) .nil))) (.cons (.ret (.call 61 (.cons (.call 50 (.cons (.var 0) .nil)) (.cons (.var 1) .nil)))) .nil)))
/-- _law_follower(cask, n, m, rule) [cask n m rule a b] -/
def c379 : CSs := (.cons (.iff (.or (.cmp .ne (.call 158 (.cons (.var 1) (.cons (.var 3) .nil))) (.tup (.cons (.tup (.cons (.int 1) (.cons (.int 1) .nil))) .nil))) (.cmp .eq (.callC 144 0 (.cons (.int 2) .nil)) (.int 0))) (.cons (.ret (.idx (.callC 169 0 (.cons (.var 1) (.cons (.var 2) .nil))) (.int 0))) .nil) .nil) (.cons (.unp (.cons (.one 4) (.cons (.one 5) .nil)) (.idx (.callC 169 0 (.cons (.var 1) (.cons (.call 155 (.cons (.var 2) (.cons (.var 3) .nil))) .nil))) (.int 0))) (.cons (.ret (.tup (.cons (.var 4) (.cons (.call 155 (.cons (.var 5) (.cons (.var 3) .nil))) .nil)))) .nil)))
/-- _law_is_product_right(machine, pair, one, two, steady) [machine pair one two steady both each can told] -/
def c380 : CSs := (.cons (.par [5, 6] (.cons (.call 155 (.cons (.var 2) (.cons (.var 3) .nil))) (.cons (.lst (.cons (.call 119 (.cons (.var 0) (.cons (.var 1) (.cons (.var 2) .nil)))) (.cons (.call 119 (.cons (.var 0) (.cons (.var 1) (.cons (.var 3) .nil)))) .nil))) .nil))) (.cons (.iff (.and (.cmp .ne (.var 2) (.var 3)) (.cmp .ne (.blt .repr (.cons (.call 119 (.cons (.var 0) (.cons (.var 1) (.cons (.var 5) .nil)))) .nil)) (.blt .repr (.cons (.cmp .eq (.var 6) (.lst (.cons (.bl true) (.cons (.bl true) .nil)))) .nil)))) (.cons (.ret (.bl false)) .nil) .nil) (.cons (.asg 7 (.lst (.cons (.call 120 (.cons (.var 0) (.cons (.var 2) .nil))) (.cons (.call 120 (.cons (.var 0) (.cons (.var 3) .nil))) .nil)))) (.cons (.iff (.and (.cmp .ne (.var 2) (.var 3)) (.cmp .ne (.blt .repr (.cons (.call 120 (.cons (.var 0) (.cons (.var 5) .nil))) .nil)) (.blt .repr (.cons (.cmp .eq (.var 7) (.lst (.cons (.bl true) (.cons (.bl true) .nil)))) .nil)))) (.cons (.ret (.bl false)) .nil) .nil) (.cons (.iff (.and (.cmp .eq (.var 2) (.var 3)) (.and (.call 119 (.cons (.var 0) (.cons (.var 1) (.cons (.var 5) .nil)))) (.cmp .ne (.var 6) (.lst (.cons (.bl true) (.cons (.bl true) .nil)))))) (.cons (.ret (.bl false)) .nil) .nil) (.cons (.iff (.cmp .ne (.var 4) (.tup (.cons (.tup (.cons (.int 1) (.cons (.int 1) .nil))) .nil))) (.cons (.asg 8 (.lst (.cons (.call 119 (.cons (.var 0) (.cons (.var 1) (.cons (.var 4) .nil)))) (.cons (.call 120 (.cons (.var 0) (.cons (.var 4) .nil))) (.cons (.call 119 (.cons (.var 0) (.cons (.var 1) (.cons (.call 155 (.cons (.var 2) (.cons (.var 4) .nil))) .nil)))) .nil))))) (.cons (.iff (.cmp .ne (.blt .repr (.cons (.var 8) .nil)) (.blt .repr (.cons (.lst (.cons (.bl true) (.cons (.bl true) (.cons (.idx (.var 6) (.int 0)) .nil)))) .nil))) (.cons (.ret (.bl false)) .nil) .nil) .nil)) .nil) (.cons (.ret (.cmp .eq (.blt .repr (.cons (.call 120 (.cons (.var 0) (.cons (.call 155 (.cons (.var 3) (.cons (.var 4) .nil))) .nil))) .nil)) (.blt .repr (.cons (.call 120 (.cons (.var 0) (.cons (.var 3) .nil))) .nil)))) .nil)))))))
/-- _law_size_of(number) [number] -/
def c381 : CSs := (.cons (.ret (.tup (.cons (.blt .abs (.cons (.idx (.var 0) (.int 0)) .nil)) (.cons (.idx (.var 0) (.int 1)) .nil)))) .nil)
/-- _law_do_meet(pair, other) [pair other] -/
def c382 : CSs := (.cons (.ret (.and (.call 257 (.cons (.idx (.var 0) (.int 0)) (.cons (.idx (.var 1) (.int 1)) .nil))) (.call 257 (.cons (.idx (.var 1) (.int 0)) (.cons (.idx (.var 0) (.int 1)) .nil))))) .nil)
/-- _law_is_one_right(answer, pair, many) [answer pair many numbers far] -/
def c383 : CSs := (.cons (.asg 3 (.call 249 (.cons (.var 0) (.cons (.int 14) .nil)))) (.cons (.asg 4 (.call 149 (.cons (.call 148 (.cons (.idx (.var 1) (.int 1)) (.cons (.idx (.var 1) (.int 0)) .nil))) (.cons (.tup (.cons (.var 2) (.cons (.int 1) .nil))) .nil)))) (.cons (.iff (.or (.not (.call 257 (.cons (.idx (.var 1) (.int 0)) (.cons (.idx (.var 1) (.int 1)) .nil)))) (.not (.call 257 (.cons (.var 4) (.cons (.tup (.cons (.int 1) (.cons (.int 1) .nil))) .nil))))) (.cons (.ret (.bl false)) .nil) .nil) (.cons (.iff (.or (.not (.call 257 (.cons (.call 240 (.cons (.var 3) .nil)) (.cons (.idx (.var 1) (.int 1)) .nil)))) (.not (.call 257 (.cons (.call 381 (.cons (.call 302 (.cons (.var 0) .nil)) .nil)) (.cons (.idx (.var 1) (.int 1)) .nil))))) (.cons (.ret (.bl false)) .nil) .nil) (.cons (.ret (.or (.cmp .ne (.idx (.var 0) (.int 1)) (.tup (.cons (.tup (.cons (.int 1) (.cons (.int 1) .nil))) .nil))) (.cmp .eq (.blt .repr (.cons (.var 1) .nil)) (.blt .repr (.cons (.tup (.cons (.call 240 (.cons (.var 3) .nil)) (.cons (.call 240 (.cons (.var 3) .nil)) .nil))) .nil))))) .nil)))))
/-- first_numbers(answer, number) [answer number] -/
def c384 : CSs := (.cons (.exc (.call 42 (.cons (.var 0) .nil))) (.cons (.iff (.not (.call 214 (.cons (.var 1) (.cons (.int 0) (.cons (.glo 9) .nil))))) (.cons .stuck .nil) .nil) (.cons (.ret (.call 216 (.cons (.var 0) (.cons (.var 1) .nil)))) .nil)))
/-- least_dip(machine, x, beat, slack) [machine x beat slack far] -/
def c386 : CSs := (.cons (.exc (.call 45 (.cons (.var 0) .nil))) (.cons (.exc (.call 310 (.cons (.var 1) .nil))) (.cons (.iff (.not (.call 214 (.cons (.var 2) (.cons (.glo 10) (.cons (.glo 11) .nil))))) (.cons .stuck .nil) .nil) (.cons (.exc (.call 385 (.cons (.var 3) .nil))) (.cons (.exc (.call 66 (.cons (.var 0) .nil))) (.cons (.iff (.cmp .ne (.call 30 (.cons (.idx (.call 50 (.cons (.var 0) .nil)) (.int 0)) (.cons (.var 1) .nil))) (.glo 0)) (.cons .stuck .nil) .nil) (.cons (.asg 4 (.call 16 (.cons (.var 1) (.cons (.bin .sub (.var 2) (.int 1)) .nil)))) (.cons (.ret (.call 12 (.cons (.call 11 (.cons (.call 10 (.cons (.glo 1) (.cons (.var 3) .nil))) (.cons (.var 4) .nil))) (.cons (.call 10 (.cons (.glo 1) (.cons (.var 4) .nil))) .nil)))) .nil))))))))
/-- _law_sums(one, many) [one many found total at] -/
def c387 : CSs := (.cons (.par [2, 3] (.cons (.lst .nil) (.cons (.tup (.cons (.int 0) (.cons (.int 1) .nil))) .nil))) (.cons (.for_ (.one 4) (.rng (.var 1)) (.cons (.asg 3 (.call 147 (.cons (.var 3) (.cons (.ite (.cmp .lt (.var 4) (.blt .len (.cons (.var 0) .nil))) (.idx (.var 0) (.var 4)) (.tup (.cons (.int 0) (.cons (.int 1) .nil)))) .nil)))) (.cons (.app 2 (.var 3)) .nil))) (.cons (.ret (.var 2)) .nil)))
/-- _law_is_dip_right(machine, x, beats, numbers) [machine x beats numbers last slack beat dip number] -/
def c388 : CSs := (.cons (.asg 4 (.idx (.var 3) (.neg (.int 1)))) (.cons (.iff (.or (.cmp .le (.idx (.var 4) (.int 0)) (.int 0)) (.cmp .lt (.var 2) (.int 1))) (.cons (.ret (.bl true)) .nil) .nil) (.cons (.asg 5 (.ite (.cmp .lt (.idx (.var 4) (.int 0)) (.idx (.var 4) (.int 1))) (.call 148 (.cons (.tup (.cons (.int 1) (.cons (.int 1) .nil))) (.cons (.var 4) .nil))) (.tup (.cons (.int 0) (.cons (.int 1) .nil))))) (.cons (.asg 6 (.blt .max2 (.cons (.int 2) (.cons (.var 2) .nil)))) (.cons (.asg 7 (.call 386 (.cons (.var 0) (.cons (.var 1) (.cons (.var 6) (.cons (.var 5) .nil)))))) (.cons (.ret (.cmp .ne (.comp (.one 8) [8] (.seq (.slH (.var 3) (.var 6))) (.call 257 (.cons (.var 8) (.cons (.idx (.call 153 (.cons (.tup (.cons (.var 7) .nil)) (.cons (.tup (.cons (.bin .sub (.int 0) (.int 1)) (.cons (.int 1) .nil))) .nil))) (.int 0)) .nil))) (.var 8)) (.lst .nil))) .nil))))))
/-- k85: law(script) [script cask n m zeros poles machine wished part k l base core told pair both more other many due nought] -/
def law_k85 : Fn := ⟨21, 1, (.cons (.cask 1 9999 0 (.cons (.int 0) .nil)) (.cons (.unp (.cons (.one 2) (.cons (.one 3) (.cons (.one 4) (.cons (.one 5) .nil)))) (.callC 167 1 .nil)) (.cons (.par [6, 7] (.cons (.callC 296 1 (.cons (.var 2) (.cons (.var 3) .nil))) (.cons (.callC 166 1 (.cons (.bin .add (.int 1) (.callC 144 1 (.cons (.int 3) .nil))) .nil)) .nil))) (.cons (.iff (.cmp .eq (.callC 144 1 (.cons (.int 2) .nil)) (.int 0)) (.cons (.asg 7 (.call 155 (.cons (.var 7) (.cons (.callC 145 1 (.cons (.lst (.cons (.tup (.cons (.tup (.cons (.int 1) (.cons (.int 1) .nil))) (.cons (.tup (.cons (.bin .sub (.int 0) (.int 2)) (.cons (.int 1) .nil))) .nil))) (.cons (.tup (.cons (.tup (.cons (.int 1) (.cons (.int 1) .nil))) (.cons (.tup (.cons (.int 1) (.cons (.int 1) .nil))) .nil))) (.cons (.tup (.cons (.tup (.cons (.int 1) (.cons (.int 1) .nil))) (.cons (.tup (.cons (.int 3) (.cons (.int 1) .nil))) (.cons (.tup (.cons (.int 1) (.cons (.int 2) .nil))) .nil)))) .nil)))) .nil)) .nil)))) .nil) .nil) (.cons (.unp (.cons (.one 8) (.cons (.one 9) (.cons (.one 10) .nil))) (.call 162 (.cons (.var 6) .nil))) (.cons (.par [11, 12] (.cons (.call 163 (.cons (.var 9) (.cons (.var 10) .nil))) (.cons (.tup (.cons (.var 9) (.cons (.var 10) .nil))) .nil))) (.cons (.iff (.cmp .ne (.blt .repr (.cons (.lst (.cons (.call 52 (.cons (.var 6) .nil)) (.cons (.call 315 (.cons (.var 6) .nil)) .nil))) .nil)) (.blt .repr (.cons (.lst (.cons (.var 8) (.cons (.var 12) .nil))) .nil))) (.cons (.ret (.bl false)) .nil) .nil) (.cons (.asg 13 (.lst (.cons (.call 67 (.cons (.var 6) .nil)) (.cons (.call 181 (.cons (.var 12) (.cons (.tup (.cons (.tup (.cons (.int 1) (.cons (.int 1) .nil))) .nil)) .nil))) (.cons (.call 181 (.cons (.var 6) (.cons (.var 8) .nil))) .nil))))) (.cons (.iff (.cmp .ne (.blt .repr (.cons (.var 13) .nil)) (.blt .repr (.cons (.lst (.cons (.var 11) (.cons (.var 11) (.cons (.var 11) .nil)))) .nil))) (.cons (.ret (.bl false)) .nil) .nil) (.cons (.par [14, 15] (.cons (.call 181 (.cons (.var 6) (.cons (.call 155 (.cons (.var 8) (.cons (.var 7) .nil))) .nil))) (.cons (.call 165 (.cons (.var 9) (.cons (.var 10) (.cons (.var 7) .nil)))) .nil))) (.cons (.iff (.or (.cmp .ne (.blt .repr (.cons (.lst (.cons (.var 14) (.cons (.call 181 (.cons (.var 12) (.cons (.var 7) .nil))) .nil))) .nil)) (.blt .repr (.cons (.lst (.cons (.var 15) (.cons (.var 15) .nil))) .nil))) (.cmp .ge (.blt .len (.cons (.idx (.var 14) (.int 0)) .nil)) (.blt .len (.cons (.var 10) .nil)))) (.cons (.ret (.bl false)) .nil) .nil) (.cons (.iff (.cmp .ne (.blt .repr (.cons (.idx (.call 156 (.cons (.call 155 (.cons (.idx (.var 11) (.int 0)) (.cons (.var 7) .nil))) (.cons (.var 10) .nil))) (.int 1)) .nil)) (.blt .repr (.cons (.idx (.var 14) (.int 0)) .nil))) (.cons (.ret (.bl false)) .nil) .nil) (.cons (.asg 16 (.tup (.cons (.call 146 (.cons (.bin .sub (.callC 144 1 (.cons (.int 7) .nil)) (.int 3)) (.cons (.int 2) .nil))) (.cons (.call 146 (.cons (.bin .add (.int 1) (.callC 144 1 (.cons (.int 3) .nil))) (.cons (.int 3) .nil))) .nil)))) (.cons (.asg 17 (.tup (.cons (.call 152 (.cons (.idx (.var 14) (.int 0)) (.cons (.call 155 (.cons (.var 10) (.cons (.var 16) .nil))) .nil))) (.cons (.call 154 (.cons (.idx (.var 14) (.int 1)) (.cons (.call 155 (.cons (.var 9) (.cons (.var 16) .nil))) .nil))) .nil)))) (.cons (.iff (.cmp .ne (.blt .repr (.cons (.lst (.cons (.call 101 (.cons (.var 6) (.cons (.var 14) .nil))) (.cons (.call 101 (.cons (.var 6) (.cons (.var 17) .nil))) .nil))) .nil)) (.blt .repr (.cons (.bin .mul (.lst (.cons (.call 155 (.cons (.var 8) (.cons (.var 7) .nil))) .nil)) (.int 2)) .nil))) (.cons (.ret (.bl false)) .nil) .nil) (.cons (.asg 18 (.bin .add (.call 313 (.cons (.var 12) .nil)) (.call 314 (.cons (.var 11) .nil)))) (.cons (.asg 19 (.ite (.cmp .eq (.var 8) (.tup (.cons (.tup (.cons (.int 1) (.cons (.int 1) .nil))) .nil))) (.var 18) .non)) (.cons (.iff (.cmp .ne (.blt .repr (.cons (.lst (.cons (.call 104 (.cons (.var 12) .nil)) (.cons (.call 104 (.cons (.var 6) .nil)) .nil))) .nil)) (.blt .repr (.cons (.lst (.cons (.var 18) (.cons (.var 19) .nil))) .nil))) (.cons (.ret (.bl false)) .nil) .nil) (.cons (.asg 20 (.tup (.cons (.tup .nil) (.cons (.tup (.cons (.tup (.cons (.int 1) (.cons (.int 1) .nil))) .nil)) .nil)))) (.cons (.ret (.cmp .eq (.blt .repr (.cons (.lst (.cons (.call 68 (.cons (.var 6) (.cons (.var 11) .nil))) (.cons (.call 297 (.cons (.var 6) (.cons (.var 20) .nil))) .nil))) .nil)) (.blt .repr (.cons (.lst (.cons (.var 20) (.cons (.var 11) .nil))) .nil)))) .nil))))))))))))))))))))⟩
/-- k81: law(script) [script cask n m zeros poles machine pair error told one less c due gone back over_v closed answer] -/
def law_k81 : Fn := ⟨19, 1, (.cons (.cask 1 9999 0 (.cons (.int 0) .nil)) (.cons (.unp (.cons (.one 2) (.cons (.one 3) (.cons (.one 4) (.cons (.one 5) .nil)))) (.callC 167 1 .nil)) (.cons (.par [6, 7] (.cons (.callC 296 1 (.cons (.var 2) (.cons (.var 3) .nil))) (.cons (.idx (.callC 169 1 (.cons (.var 2) (.cons (.var 3) .nil))) (.int 0)) .nil))) (.cons (.iff (.cmp .eq (.callC 144 1 (.cons (.int 3) .nil)) (.int 0)) (.cons (.asg 7 (.tup (.cons (.call 155 (.cons (.idx (.var 7) (.int 0)) (.cons (.tup (.cons (.tup (.cons (.int 1) (.cons (.int 1) .nil))) (.cons (.tup (.cons (.int 1) (.cons (.int 3) .nil))) .nil))) .nil))) (.cons (.call 155 (.cons (.idx (.var 7) (.int 1)) (.cons (.tup (.cons (.tup (.cons (.int 1) (.cons (.int 1) .nil))) (.cons (.tup (.cons (.int 1) (.cons (.int 3) .nil))) .nil))) .nil))) .nil)))) .nil) .nil) (.cons (.par [8, 9, 10] (.cons (.call 295 (.cons (.var 6) (.cons (.var 7) .nil))) (.cons (.call 294 (.cons (.var 6) (.cons (.var 7) .nil))) (.cons (.tup (.cons (.tup (.cons (.tup (.cons (.int 1) (.cons (.int 1) .nil))) .nil)) (.cons (.tup (.cons (.tup (.cons (.int 1) (.cons (.int 1) .nil))) .nil)) .nil))) .nil)))) (.cons (.par [11, 12] (.cons (.tup (.cons (.tup (.cons (.tup (.cons (.bin .sub (.int 0) (.int 1)) (.cons (.int 1) .nil))) .nil)) (.cons (.tup (.cons (.tup (.cons (.int 1) (.cons (.int 1) .nil))) .nil)) .nil))) (.cons (.call 164 (.cons (.var 6) (.cons (.var 7) .nil))) .nil))) (.cons (.asg 13 (.lst (.cons (.call 171 (.cons (.call 155 (.cons (.idx (.var 6) (.int 0)) (.cons (.idx (.var 7) (.int 0)) .nil))) (.cons (.var 12) .nil))) (.cons (.call 171 (.cons (.call 155 (.cons (.idx (.var 6) (.int 1)) (.cons (.idx (.var 7) (.int 0)) .nil))) (.cons (.var 12) .nil))) .nil)))) (.cons (.asg 13 (.bin .add (.var 13) (.lst (.cons (.call 171 (.cons (.call 155 (.cons (.idx (.var 6) (.int 0)) (.cons (.idx (.var 7) (.int 1)) .nil))) (.cons (.var 12) .nil))) .nil)))) (.cons (.asg 13 (.bin .add (.var 13) (.lst (.cons (.call 171 (.cons (.call 153 (.cons (.call 155 (.cons (.idx (.var 6) (.int 0)) (.cons (.idx (.var 7) (.int 0)) .nil))) (.cons (.tup (.cons (.bin .sub (.int 0) (.int 1)) (.cons (.int 1) .nil))) .nil))) (.cons (.var 12) .nil))) .nil)))) (.cons (.iff (.cmp .ne (.blt .repr (.cons (.blt .list (.cons (.var 9) .nil)) .nil)) (.blt .repr (.cons (.var 13) .nil))) (.cons (.ret (.bl false)) .nil) .nil) (.cons (.iff (.cmp .ne (.blt .repr (.cons (.lst (.cons (.var 8) (.cons (.call 101 (.cons (.var 6) (.cons (.var 7) .nil))) .nil))) .nil)) (.blt .repr (.cons (.lst (.cons (.call 208 (.cons (.var 6) (.cons (.var 7) .nil))) (.cons (.var 12) .nil))) .nil))) (.cons (.ret (.bl false)) .nil) .nil) (.cons (.asg 14 (.call 289 (.cons (.var 10) (.cons (.call 290 (.cons (.var 8) (.cons (.var 11) .nil))) .nil)))) (.cons (.iff (.cmp .ne (.blt .repr (.cons (.lst (.cons (.call 289 (.cons (.var 8) (.cons (.idx (.var 9) (.int 0)) .nil))) (.cons (.var 14) .nil))) .nil)) (.blt .repr (.cons (.lst (.cons (.var 10) (.cons (.idx (.var 9) (.int 0)) .nil))) .nil))) (.cons (.ret (.bl false)) .nil) .nil) (.cons (.asg 15 (.call 290 (.cons (.idx (.var 9) (.int 1)) (.cons (.call 171 (.cons (.idx (.var 6) (.int 0)) (.cons (.tup (.cons (.tup (.cons (.int 1) (.cons (.int 1) .nil))) .nil)) .nil))) .nil)))) (.cons (.iff (.cmp .ne (.blt .repr (.cons (.call 290 (.cons (.idx (.var 9) (.int 0)) (.cons (.call 171 (.cons (.idx (.var 6) (.int 1)) (.cons (.tup (.cons (.tup (.cons (.int 1) (.cons (.int 1) .nil))) .nil)) .nil))) .nil))) .nil)) (.blt .repr (.cons (.var 15) .nil))) (.cons (.ret (.bl false)) .nil) .nil) (.cons (.iff (.cmp .ne (.blt .repr (.cons (.call 290 (.cons (.var 8) (.cons (.call 171 (.cons (.idx (.var 6) (.int 0)) (.cons (.idx (.var 6) (.int 1)) .nil))) .nil))) .nil)) (.blt .repr (.cons (.idx (.var 9) (.int 2)) .nil))) (.cons (.ret (.bl false)) .nil) .nil) (.cons (.asg 16 (.call 171 (.cons (.call 155 (.cons (.idx (.var 6) (.int 0)) (.cons (.idx (.var 7) (.int 1)) .nil))) (.cons (.call 155 (.cons (.var 12) (.cons (.idx (.var 6) (.int 1)) .nil))) .nil)))) (.cons (.iff (.cmp .ne (.blt .repr (.cons (.call 291 (.cons (.idx (.var 9) (.int 2)) (.cons (.call 171 (.cons (.idx (.var 6) (.int 1)) (.cons (.tup (.cons (.tup (.cons (.int 1) (.cons (.int 1) .nil))) .nil)) .nil))) .nil))) .nil)) (.blt .repr (.cons (.var 16) .nil))) (.cons (.ret (.bl false)) .nil) .nil) (.cons (.asg 17 (.call 155 (.cons (.idx (.var 8) (.int 0)) (.cons (.call 287 (.cons (.var 12) (.cons (.tup (.cons (.tup (.cons (.int 1) (.cons (.int 1) .nil))) .nil)) .nil))) .nil)))) (.cons (.iff (.cmp .ne (.var 17) (.call 155 (.cons (.idx (.var 8) (.int 1)) (.cons (.call 287 (.cons (.idx (.var 6) (.int 1)) (.cons (.idx (.var 7) (.int 1)) .nil))) .nil)))) (.cons (.ret (.bl false)) .nil) .nil) (.cons (.iff (.cmp .ne (.blt .repr (.cons (.call 289 (.cons (.var 8) (.cons (.var 11) .nil))) .nil)) (.blt .repr (.cons (.idx (.var 9) (.int 3)) .nil))) (.cons (.ret (.bl false)) .nil) .nil) (.cons (.ret (.cmp .eq (.comp (.one 18) [18] (.seq (.bin .add (.blt .list (.cons (.var 9) .nil)) (.lst (.cons (.var 8) .nil)))) (.notB true (.call 292 (.cons (.var 18) .nil))) (.var 18)) (.lst .nil))) .nil))))))))))))))))))))))⟩
/-- k82: law(script) [script cask n m zeros poles machine p w frees share errors answers free pair top due more tops each at] -/
def law_k82 : Fn := ⟨21, 1, (.cons (.cask 1 9999 0 (.cons (.int 0) .nil)) (.cons (.unp (.cons (.one 2) (.cons (.one 3) (.cons (.one 4) (.cons (.one 5) .nil)))) (.callC 167 1 .nil)) (.cons (.unp (.cons (.one 6) (.cons (.tup (.cons (.one 7) (.cons (.one 8) .nil))) (.cons (.one 9) .nil))) (.tup (.cons (.callC 296 1 (.cons (.var 2) (.cons (.var 3) .nil))) (.cons (.call 163 (.cons (.var 2) (.cons (.var 3) .nil))) (.cons (.lst (.cons (.callC 298 1 .nil) (.cons (.callC 298 1 .nil) .nil))) .nil))))) (.cons (.asg 10 (.call 146 (.cons (.bin .sub (.callC 144 1 (.cons (.int 9) .nil)) (.int 4)) (.cons (.bin .add (.int 1) (.callC 144 1 (.cons (.int 4) .nil))) .nil)))) (.cons (.app 9 (.call 299 (.cons (.idx (.var 9) (.int 0)) (.cons (.idx (.var 9) (.int 1)) (.cons (.var 10) .nil))))) (.cons (.iff (.cmp .ne (.blt .repr (.cons (.lst (.cons (.call 67 (.cons (.var 6) .nil)) (.cons (.call 67 (.cons (.tup (.cons (.var 2) (.cons (.var 3) .nil))) .nil)) .nil))) .nil)) (.blt .repr (.cons (.lst (.cons (.tup (.cons (.var 7) (.cons (.var 8) .nil))) (.cons (.tup (.cons (.var 7) (.cons (.var 8) .nil))) .nil))) .nil))) (.cons (.ret (.bl false)) .nil) .nil) (.cons (.par [11, 12] (.cons (.lst .nil) (.cons (.lst .nil) .nil))) (.cons (.for_ (.one 13) (.seq (.var 9)) (.cons (.asg 14 (.call 297 (.cons (.var 6) (.cons (.var 13) .nil)))) (.cons (.iff (.or (.notB true (.call 102 (.cons (.var 6) (.cons (.var 14) .nil)))) (.cmp .ne (.blt .repr (.cons (.call 68 (.cons (.var 6) (.cons (.var 14) .nil))) .nil)) (.blt .repr (.cons (.var 13) .nil)))) (.cons (.ret (.bl false)) .nil) .nil) (.cons (.asg 15 (.call 154 (.cons (.call 155 (.cons (.var 8) (.cons (.idx (.var 13) (.int 1)) .nil))) (.cons (.call 155 (.cons (.var 2) (.cons (.idx (.var 13) (.int 0)) .nil))) .nil)))) (.cons (.asg 16 (.call 171 (.cons (.call 155 (.cons (.var 3) (.cons (.var 15) .nil))) (.cons (.idx (.var 13) (.int 1)) .nil)))) (.cons (.iff (.cmp .ne (.blt .repr (.cons (.call 295 (.cons (.var 6) (.cons (.var 14) .nil))) .nil)) (.blt .repr (.cons (.var 16) .nil))) (.cons (.ret (.bl false)) .nil) .nil) (.cons (.app 11 (.var 16)) (.cons (.app 12 (.call 294 (.cons (.var 6) (.cons (.var 14) .nil)))) (.cons (.asg 17 (.call 152 (.cons (.call 155 (.cons (.var 7) (.cons (.idx (.var 13) (.int 1)) .nil))) (.cons (.call 155 (.cons (.var 3) (.cons (.idx (.var 13) (.int 0)) .nil))) .nil)))) (.cons (.par [18, 16] (.cons (.lst (.cons (.call 155 (.cons (.var 2) (.cons (.var 17) .nil))) (.cons (.call 155 (.cons (.var 3) (.cons (.var 17) .nil))) (.cons (.call 155 (.cons (.var 2) (.cons (.var 15) .nil))) .nil)))) (.cons (.lst .nil) .nil))) (.cons (.for_ (.one 19) (.seq (.bin .add (.var 18) (.lst (.cons (.call 153 (.cons (.idx (.var 18) (.int 0)) (.cons (.tup (.cons (.bin .sub (.int 0) (.int 1)) (.cons (.int 1) .nil))) .nil))) .nil)))) (.cons (.app 16 (.call 171 (.cons (.var 19) (.cons (.idx (.var 13) (.int 1)) .nil)))) .nil)) (.cons (.iff (.cmp .ne (.blt .repr (.cons (.blt .list (.cons (.idx (.var 12) (.neg (.int 1))) .nil)) .nil)) (.blt .repr (.cons (.var 16) .nil))) (.cons (.ret (.bl false)) .nil) .nil) .nil)))))))))))) (.cons (.iff (.or (.cmp .ne (.cmp .eq (.idx (.var 11) (.int 0)) (.idx (.var 11) (.int 1))) (.cmp .eq (.idx (.var 9) (.int 0)) (.idx (.var 9) (.int 1)))) (.cmp .ne (.idx (.var 11) (.int 2)) (.call 299 (.cons (.idx (.var 11) (.int 0)) (.cons (.idx (.var 11) (.int 1)) (.cons (.var 10) .nil)))))) (.cons (.ret (.bl false)) .nil) .nil) (.cons (.for_ (.one 20) (.rng (.int 4)) (.cons (.iff (.cmp .ne (.idx (.idx (.var 12) (.int 2)) (.var 20)) (.call 299 (.cons (.idx (.idx (.var 12) (.int 0)) (.var 20)) (.cons (.idx (.idx (.var 12) (.int 1)) (.var 20)) (.cons (.var 10) .nil))))) (.cons (.ret (.bl false)) .nil) .nil) .nil)) (.cons (.ret (.bl true)) .nil)))))))))))⟩
/-- k93: law(script) [script cask n m zeros poles menu machine one two pair steady top silent goal y u left error lefts whole told] -/
def law_k93 : Fn := ⟨22, 1, (.cons (.cask 1 9999 0 (.cons (.int 0) .nil)) (.cons (.unp (.cons (.one 2) (.cons (.one 3) (.cons (.one 4) (.cons (.one 5) .nil)))) (.callC 167 1 .nil)) (.cons (.asg 6 (.lst (.cons (.tup (.cons (.int 1) (.cons (.int 1) .nil))) (.cons (.tup (.cons (.bin .sub (.int 0) (.int 1)) (.cons (.int 1) .nil))) (.cons (.tup (.cons (.int 1) (.cons (.int 2) .nil))) (.cons (.tup (.cons (.bin .sub (.int 0) (.int 1)) (.cons (.int 2) .nil))) (.cons (.tup (.cons (.int 1) (.cons (.int 3) .nil))) (.cons (.tup (.cons (.int 2) (.cons (.int 3) .nil))) .nil)))))))) (.cons (.par [7, 8, 9] (.cons (.callC 296 1 (.cons (.var 2) (.cons (.var 3) .nil))) (.cons (.call 159 (.cons (.callC 145 1 (.cons (.var 6) .nil)) .nil)) (.cons (.call 159 (.cons (.callC 145 1 (.cons (.var 6) .nil)) .nil)) .nil)))) (.cons (.par [10, 11] (.cons (.callC 379 1 (.cons (.var 2) (.cons (.var 3) (.cons (.callC 145 1 (.cons (.lst (.cons (.var 8) (.cons (.var 9) (.cons (.call 155 (.cons (.var 8) (.cons (.var 9) .nil))) .nil)))) .nil)) .nil)))) (.cons (.callC 166 1 (.cons (.callC 144 1 (.cons (.int 3) .nil)) .nil)) .nil))) (.cons (.iff (.not (.call 380 (.cons (.var 7) (.cons (.var 10) (.cons (.var 8) (.cons (.var 9) (.cons (.var 11) .nil))))))) (.cons (.ret (.bl false)) .nil) .nil) (.cons (.par [12, 13] (.cons (.tup (.cons (.call 146 (.cons (.bin .add (.int 1) (.callC 144 1 (.cons (.int 4) .nil))) (.cons (.int 2) .nil))) .nil)) (.cons (.tup (.cons (.tup .nil) (.cons (.tup (.cons (.tup (.cons (.int 1) (.cons (.int 1) .nil))) .nil)) .nil))) .nil))) (.cons (.asg 14 (.call 289 (.cons (.call 171 (.cons (.tup (.cons (.tup (.cons (.int 1) (.cons (.int 1) .nil))) .nil)) (.cons (.var 8) .nil))) (.cons (.call 171 (.cons (.var 12) (.cons (.var 9) .nil))) .nil)))) (.cons (.unp (.cons (.one 15) (.cons (.one 16) .nil)) (.call 304 (.cons (.var 7) (.cons (.var 10) (.cons (.var 14) (.cons (.var 13) (.cons (.tup .nil) (.cons (.tup .nil) .nil)))))))) (.cons (.asg 17 (.call 289 (.cons (.var 14) (.cons (.tup (.cons (.call 153 (.cons (.idx (.var 15) (.int 0)) (.cons (.tup (.cons (.bin .sub (.int 0) (.int 1)) (.cons (.int 1) .nil))) .nil))) (.cons (.idx (.var 15) (.int 1)) .nil))) .nil)))) (.cons (.asg 18 (.call 295 (.cons (.var 7) (.cons (.var 10) .nil)))) (.cons (.iff (.cmp .ne (.blt .repr (.cons (.var 17) .nil)) (.blt .repr (.cons (.call 171 (.cons (.call 155 (.cons (.idx (.var 18) (.int 0)) (.cons (.idx (.var 14) (.int 0)) .nil))) (.cons (.call 155 (.cons (.idx (.var 18) (.int 1)) (.cons (.idx (.var 14) (.int 1)) .nil))) .nil))) .nil))) (.cons (.ret (.bl false)) .nil) .nil) (.cons (.iff (.and (.cmp .ne (.var 8) (.var 9)) (.cmp .ne (.blt .repr (.cons (.call 292 (.cons (.var 17) .nil)) .nil)) (.blt .repr (.cons (.and (.call 119 (.cons (.var 7) (.cons (.var 10) (.cons (.var 8) .nil)))) (.call 119 (.cons (.var 7) (.cons (.var 10) (.cons (.var 9) .nil))))) .nil)))) (.cons (.ret (.bl false)) .nil) .nil) (.cons (.asg 19 (.call 155 (.cons (.call 378 (.cons (.var 7) (.cons (.var 8) .nil))) (.cons (.call 378 (.cons (.var 7) (.cons (.var 9) .nil))) .nil)))) (.cons (.iff (.and (.cmp .ne (.var 8) (.var 9)) (.cmp .ne (.blt .repr (.cons (.call 378 (.cons (.var 7) (.cons (.call 155 (.cons (.var 8) (.cons (.var 9) .nil))) .nil))) .nil)) (.blt .repr (.cons (.var 19) .nil)))) (.cons (.ret (.bl false)) .nil) .nil) (.cons (.asg 20 (.call 155 (.cons (.var 8) (.cons (.var 9) .nil)))) (.cons (.par [21, 17] (.cons (.call 193 (.cons (.var 7) (.cons (.var 20) .nil))) (.cons (.idx (.call 156 (.cons (.var 20) (.cons (.call 158 (.cons (.var 20) (.cons (.var 3) .nil))) .nil))) (.int 0)) .nil))) (.cons (.iff (.isN (.call 161 (.cons (.call 158 (.cons (.var 2) (.cons (.var 17) .nil))) .nil))) (.cons (.ret (.and (.isN (.var 21)) (.isB false (.call 120 (.cons (.var 7) (.cons (.var 20) .nil)))))) .nil) .nil) (.cons (.iff (.isN (.var 21)) (.cons (.ret (.bl false)) .nil) .nil) (.cons (.ret (.cmp .eq (.lst (.cons (.call 119 (.cons (.var 7) (.cons (.var 21) (.cons (.var 8) .nil)))) (.cons (.call 119 (.cons (.var 7) (.cons (.var 21) (.cons (.var 9) .nil)))) (.cons (.call 119 (.cons (.var 7) (.cons (.var 21) (.cons (.call 155 (.cons (.var 8) (.cons (.var 9) .nil))) .nil)))) .nil)))) (.bin .mul (.lst (.cons (.bl true) .nil)) (.int 3)))) .nil))))))))))))))))))))⟩
/-- k83: law(script) [script cask n m zeros poles x machine rule pair error number does goal silent y u left due start gone] -/
def law_k83 : Fn := ⟨21, 1, (.cons (.cask 1 9999 0 (.cons (.int 0) .nil)) (.cons (.unp (.cons (.one 2) (.cons (.one 3) (.cons (.one 4) (.cons (.one 5) .nil)))) (.callC 167 1 .nil)) (.cons (.asg 6 (.callC 145 1 (.cons (.lst (.cons (.tup (.cons (.int 1) (.cons (.int 1) .nil))) (.cons (.tup (.cons (.int 1) (.cons (.int 1) .nil))) (.cons (.tup (.cons (.bin .sub (.int 0) (.int 1)) (.cons (.int 1) .nil))) .nil)))) .nil))) (.cons (.par [7, 8, 9] (.cons (.callC 296 1 (.cons (.var 2) (.cons (.var 3) .nil))) (.cons (.call 159 (.cons (.var 6) .nil)) (.cons (.idx (.callC 169 1 (.cons (.var 2) (.cons (.var 3) .nil))) (.int 0)) .nil)))) (.cons (.iff (.and (.cmp .ne (.idx (.call 207 (.cons (.var 2) (.cons (.var 6) .nil))) (.int 0)) (.int 0)) (.cmp .eq (.callC 144 1 (.cons (.int 2) .nil)) (.int 0))) (.cons (.asg 9 (.idx (.callC 169 1 (.cons (.var 2) (.cons (.call 155 (.cons (.var 3) (.cons (.var 8) .nil))) .nil))) (.int 0))) (.cons (.asg 9 (.tup (.cons (.idx (.var 9) (.int 0)) (.cons (.call 155 (.cons (.idx (.var 9) (.int 1)) (.cons (.var 8) .nil))) .nil)))) .nil)) .nil) (.cons (.par [10, 11] (.cons (.call 295 (.cons (.var 7) (.cons (.var 9) .nil))) (.cons (.call 146 (.cons (.bin .add (.int 1) (.callC 144 1 (.cons (.int 5) .nil))) (.cons (.bin .add (.int 1) (.callC 144 1 (.cons (.int 3) .nil))) .nil))) .nil))) (.cons (.iff (.cmp .ne (.blt .repr (.cons (.var 10) .nil)) (.blt .repr (.cons (.call 208 (.cons (.var 7) (.cons (.var 9) .nil))) .nil))) (.cons (.ret (.bl false)) .nil) .nil) (.cons (.asg 12 (.cmp .eq (.idx (.call 207 (.cons (.idx (.var 10) (.int 0)) (.cons (.var 6) .nil))) (.int 0)) (.int 0))) (.cons (.iff (.cmp .ne (.blt .repr (.cons (.lst (.cons (.cmp .eq (.idx (.call 300 (.cons (.idx (.var 10) (.int 0)) (.cons (.var 6) .nil))) (.int 0)) (.int 0)) (.cons (.call 119 (.cons (.var 7) (.cons (.var 9) (.cons (.var 8) .nil)))) .nil))) .nil)) (.blt .repr (.cons (.lst (.cons (.var 12) (.cons (.var 12) .nil))) .nil))) (.cons (.ret (.bl false)) .nil) .nil) (.cons (.iff (.and (.cmp .eq (.var 6) (.tup (.cons (.int 1) (.cons (.int 1) .nil)))) (.cmp .ne (.cmp .eq (.call 302 (.cons (.var 10) .nil)) (.tup (.cons (.int 0) (.cons (.int 1) .nil)))) (.var 12))) (.cons (.ret (.bl false)) .nil) .nil) (.cons (.par [13, 14] (.cons (.call 301 (.cons (.tup (.cons (.var 11) .nil)) (.cons (.var 8) .nil))) (.cons (.tup (.cons (.tup .nil) (.cons (.tup (.cons (.tup (.cons (.int 1) (.cons (.int 1) .nil))) .nil)) .nil))) .nil))) (.cons (.unp (.cons (.one 15) (.cons (.one 16) .nil)) (.call 304 (.cons (.var 7) (.cons (.var 9) (.cons (.var 13) (.cons (.var 14) (.cons (.tup .nil) (.cons (.tup .nil) .nil)))))))) (.cons (.asg 17 (.call 289 (.cons (.var 13) (.cons (.tup (.cons (.call 153 (.cons (.idx (.var 15) (.int 0)) (.cons (.tup (.cons (.bin .sub (.int 0) (.int 1)) (.cons (.int 1) .nil))) .nil))) (.cons (.idx (.var 15) (.int 1)) .nil))) .nil)))) (.cons (.asg 18 (.call 171 (.cons (.call 153 (.cons (.idx (.var 10) (.int 0)) (.cons (.var 11) .nil))) (.cons (.call 155 (.cons (.idx (.var 10) (.int 1)) (.cons (.var 8) .nil))) .nil)))) (.cons (.asg 19 (.call 192 (.cons (.var 7) (.cons (.var 9) (.cons (.var 8) .nil))))) (.cons (.iff (.or (.cmp .ne (.blt .repr (.cons (.lst (.cons (.var 17) (.cons (.call 292 (.cons (.var 17) .nil)) .nil))) .nil)) (.blt .repr (.cons (.lst (.cons (.var 18) (.cons (.var 12) .nil))) .nil))) (.cmp .ne (.isN (.var 19)) (.var 12))) (.cons (.ret (.bl false)) .nil) .nil) (.cons (.iff (.and (.notN (.var 19)) (.call 305 (.cons (.var 19) .nil))) (.cons (.asg 20 (.call 171 (.cons (.call 155 (.cons (.idx (.var 10) (.int 0)) (.cons (.var 19) .nil))) (.cons (.call 155 (.cons (.idx (.var 10) (.int 1)) (.cons (.var 8) .nil))) .nil)))) (.cons (.iff (.notB false (.call 292 (.cons (.var 20) .nil))) (.cons (.ret (.bl false)) .nil) .nil) .nil)) .nil) (.cons (.iff (.and (.var 12) (.notB true (.call 120 (.cons (.var 7) (.cons (.var 8) .nil))))) (.cons (.ret (.bl false)) .nil) .nil) (.cons (.ret (.or (.var 12) (.or (.cmp .ne (.idx (.call 207 (.cons (.var 2) (.cons (.var 6) .nil))) (.int 0)) (.int 0)) (.isB false (.call 120 (.cons (.var 7) (.cons (.var 8) .nil))))))) .nil)))))))))))))))))))⟩
def T : Nat → Option Fn
  | 1 => some ⟨1, 1, c1⟩
  | 3 => some ⟨3, 2, c3⟩
  | 4 => some ⟨3, 1, c4⟩
  | 5 => some ⟨3, 1, c5⟩
  | 7 => some ⟨1, 1, c7⟩
  | 8 => some ⟨2, 2, c8⟩
  | 9 => some ⟨2, 2, c9⟩
  | 10 => some ⟨2, 2, c10⟩
  | 11 => some ⟨2, 2, c11⟩
  | 12 => some ⟨2, 2, c12⟩
  | 13 => some ⟨3, 1, c13⟩
  | 14 => some ⟨2, 2, c14⟩
  | 15 => some ⟨1, 1, c15⟩
  | 16 => some ⟨5, 2, c16⟩
  | 17 => some ⟨2, 1, c17⟩
  | 18 => some ⟨1, 1, c18⟩
  | 19 => some ⟨2, 2, c19⟩
  | 20 => some ⟨4, 2, c20⟩
  | 21 => some ⟨3, 2, c21⟩
  | 22 => some ⟨4, 2, c22⟩
  | 23 => some ⟨7, 2, c23⟩
  | 24 => some ⟨7, 2, c24⟩
  | 25 => some ⟨2, 2, c25⟩
  | 26 => some ⟨2, 2, c26⟩
  | 27 => some ⟨2, 1, c27⟩
  | 28 => some ⟨2, 2, c28⟩
  | 29 => some ⟨9, 2, c29⟩
  | 30 => some ⟨4, 2, c30⟩
  | 31 => some ⟨1, 1, c31⟩
  | 32 => some ⟨1, 1, c32⟩
  | 33 => some ⟨6, 2, c33⟩
  | 34 => some ⟨4, 1, c34⟩
  | 35 => some ⟨1, 1, c35⟩
  | 36 => some ⟨4, 2, c36⟩
  | 37 => some ⟨2, 2, c37⟩
  | 38 => some ⟨2, 1, c38⟩
  | 39 => some ⟨1, 1, c39⟩
  | 40 => some ⟨1, 1, c40⟩
  | 41 => some ⟨1, 1, c41⟩
  | 42 => some ⟨1, 1, c42⟩
  | 43 => some ⟨1, 1, c43⟩
  | 44 => some ⟨1, 1, c44⟩
  | 45 => some ⟨1, 1, c45⟩
  | 46 => some ⟨1, 1, c46⟩
  | 47 => some ⟨2, 2, c47⟩
  | 48 => some ⟨1, 1, c48⟩
  | 49 => some ⟨1, 1, c49⟩
  | 50 => some ⟨2, 1, c50⟩
  | 51 => some ⟨1, 1, c51⟩
  | 52 => some ⟨1, 1, c52⟩
  | 54 => some ⟨2, 2, c54⟩
  | 55 => some ⟨2, 2, c55⟩
  | 57 => some ⟨1, 1, c57⟩
  | 58 => some ⟨6, 2, c58⟩
  | 59 => some ⟨2, 2, c59⟩
  | 61 => some ⟨2, 2, c61⟩
  | 62 => some ⟨3, 3, c62⟩
  | 63 => some ⟨3, 2, c63⟩
  | 64 => some ⟨1, 1, c64⟩
  | 65 => some ⟨1, 1, c65⟩
  | 66 => some ⟨1, 1, c66⟩
  | 67 => some ⟨1, 1, c67⟩
  | 68 => some ⟨2, 2, c68⟩
  | 82 => some ⟨2, 1, c82⟩
  | 83 => some ⟨6, 2, c83⟩
  | 93 => some ⟨1, 1, c93⟩
  | 94 => some ⟨2, 2, c94⟩
  | 96 => some ⟨2, 2, c96⟩
  | 97 => some ⟨2, 2, c97⟩
  | 98 => some ⟨11, 4, c98⟩
  | 100 => some ⟨1, 1, c100⟩
  | 101 => some ⟨2, 2, c101⟩
  | 102 => some ⟨2, 2, c102⟩
  | 103 => some ⟨2, 2, c103⟩
  | 104 => some ⟨1, 1, c104⟩
  | 116 => some ⟨1, 1, c116⟩
  | 117 => some ⟨1, 1, c117⟩
  | 118 => some ⟨2, 2, c118⟩
  | 119 => some ⟨3, 3, c119⟩
  | 120 => some ⟨2, 2, c120⟩
  | 143 => some ⟨6, 2, c143⟩
  | 144 => some ⟨4, 2, c144⟩
  | 145 => some ⟨2, 2, c145⟩
  | 146 => some ⟨5, 2, c146⟩
  | 147 => some ⟨2, 2, c147⟩
  | 148 => some ⟨2, 2, c148⟩
  | 149 => some ⟨2, 2, c149⟩
  | 150 => some ⟨2, 2, c150⟩
  | 151 => some ⟨3, 1, c151⟩
  | 152 => some ⟨5, 2, c152⟩
  | 153 => some ⟨3, 2, c153⟩
  | 154 => some ⟨2, 2, c154⟩
  | 155 => some ⟨5, 2, c155⟩
  | 156 => some ⟨7, 2, c156⟩
  | 157 => some ⟨3, 1, c157⟩
  | 158 => some ⟨3, 2, c158⟩
  | 159 => some ⟨1, 1, c159⟩
  | 160 => some ⟨3, 1, c160⟩
  | 161 => some ⟨8, 1, c161⟩
  | 162 => some ⟨2, 1, c162⟩
  | 163 => some ⟨10, 2, c163⟩
  | 164 => some ⟨2, 2, c164⟩
  | 165 => some ⟨6, 3, c165⟩
  | 166 => some ⟨9, 2, c166⟩
  | 167 => some ⟨11, 1, c167⟩
  | 169 => some ⟨7, 3, c169⟩
  | 171 => some ⟨3, 2, c171⟩
  | 180 => some ⟨6, 2, c180⟩
  | 181 => some ⟨2, 2, c181⟩
  | 191 => some ⟨6, 2, c191⟩
  | 192 => some ⟨3, 3, c192⟩
  | 193 => some ⟨2, 2, c193⟩
  | 196 => some ⟨3, 1, c196⟩
  | 201 => some ⟨8, 2, c201⟩
  | 207 => some ⟨4, 2, c207⟩
  | 208 => some ⟨2, 2, c208⟩
  | 214 => some ⟨3, 3, c214⟩
  | 216 => some ⟨8, 2, c216⟩
  | 228 => some ⟨1, 1, c228⟩
  | 229 => some ⟨2, 2, c229⟩
  | 230 => some ⟨4, 2, c230⟩
  | 231 => some ⟨2, 2, c231⟩
  | 232 => some ⟨2, 2, c232⟩
  | 240 => some ⟨3, 1, c240⟩
  | 246 => some ⟨9, 2, c246⟩
  | 247 => some ⟨3, 1, c247⟩
  | 249 => some ⟨8, 2, c249⟩
  | 257 => some ⟨2, 2, c257⟩
  | 284 => some ⟨3, 2, c284⟩
  | 285 => some ⟨1, 1, c285⟩
  | 286 => some ⟨2, 2, c286⟩
  | 287 => some ⟨2, 2, c287⟩
  | 288 => some ⟨2, 2, c288⟩
  | 289 => some ⟨2, 2, c289⟩
  | 290 => some ⟨2, 2, c290⟩
  | 291 => some ⟨2, 2, c291⟩
  | 292 => some ⟨1, 1, c292⟩
  | 293 => some ⟨9, 2, c293⟩
  | 294 => some ⟨2, 2, c294⟩
  | 295 => some ⟨2, 2, c295⟩
  | 296 => some ⟨4, 3, c296⟩
  | 297 => some ⟨2, 2, c297⟩
  | 298 => some ⟨3, 1, c298⟩
  | 299 => some ⟨5, 3, c299⟩
  | 300 => some ⟨2, 2, c300⟩
  | 301 => some ⟨2, 2, c301⟩
  | 302 => some ⟨1, 1, c302⟩
  | 303 => some ⟨13, 6, c303⟩
  | 304 => some ⟨6, 6, c304⟩
  | 311 => some ⟨2, 2, c311⟩
  | 313 => some ⟨1, 1, c313⟩
  | 314 => some ⟨1, 1, c314⟩
  | 315 => some ⟨1, 1, c315⟩
  | 378 => some ⟨2, 2, c378⟩
  | 379 => some ⟨6, 4, c379⟩
  | 380 => some ⟨9, 5, c380⟩
  | 381 => some ⟨1, 1, c381⟩
  | 382 => some ⟨2, 2, c382⟩
  | 383 => some ⟨5, 3, c383⟩
  | 384 => some ⟨2, 2, c384⟩
  | 386 => some ⟨5, 4, c386⟩
  | 387 => some ⟨5, 2, c387⟩
  | 388 => some ⟨9, 4, c388⟩
  | _ => none
def G : Glo
  | 0 => some (.tuple [(.int 0), (.int 1)])
  | 1 => some (.tuple [(.int 1), (.int 1)])
  | 2 => some (.tuple [(.tuple [(.int 1), (.int 1)])])
  | 3 => some (.tuple [(.int (-1)), (.int 1)])
  | 4 => some (.tuple [(.int 1), (.int 1)])
  | 5 => some (.tuple [(.int 2), (.int 1)])
  | 7 => some (.int 1000000)
  | 8 => some (.tuple [(.int (-1)), (.int 1)])
  | 9 => some (.int 60)
  | 10 => some (.int 2)
  | 11 => some (.int 60)
  | 12 => some (.str "abcdefghijklmnopqrstuvwxyz")
  | 13 => some (.int 12)
  | 14 => some (.str "machine")
  | 15 => some (.str "helm")
  | _ => none
end DnLib
set_option Elab.async false
set_option linter.all false
set_option maxRecDepth 100000
set_option maxHeartbeats 0
/-! Lw_k81: the law's texts, checked (printed by genlaw.py). -/
namespace Lw_k81
open PySem PySem.Spec PyProof.Rows L2 Dn
def top (i : Nat) : Stmt := PySem.Challenge.pw_allhelms_k81_whole_errors_beside_the_fou.main.body.getD i (.Pass ⟨0, 0, 0, 0⟩)
def dd (x : Str) (i : Nat) (N : List Str) (c : CSs) : Dfn := ⟨x, defArgs (top i), defBody (top i), defScope (top i), N, c⟩
def items0 : List Item := [⟨dd "is_whole" 10 [("value" : Str)] DnLib.c1, 1⟩,
  ⟨dd "are_wholes" 11 [("value" : Str), ("many" : Str), ("each" : Str)] DnLib.c3, 3⟩,
  ⟨dd "divisor_of" 12 [("numbers" : Str), ("found" : Str), ("number" : Str)] DnLib.c4, 4⟩,
  ⟨dd "lowest" 13 [("numbers" : Str), ("part" : Str), ("number" : Str)] DnLib.c5, 5⟩,
  ⟨dd "is_ratio" 17 [("value" : Str)] DnLib.c7, 7⟩,
  ⟨dd "ratio" 18 [("top" : Str), ("low" : Str)] DnLib.c8, 8⟩,
  ⟨dd "plus" 19 [("one" : Str), ("two" : Str)] DnLib.c9, 9⟩,
  ⟨dd "minus" 20 [("one" : Str), ("two" : Str)] DnLib.c10, 10⟩,
  ⟨dd "times" 21 [("one" : Str), ("two" : Str)] DnLib.c11, 11⟩,
  ⟨dd "over" 22 [("one" : Str), ("two" : Str)] DnLib.c12, 12⟩]
def items1 : List Item := [⟨dd "trimmed" 25 [("numbers" : Str), ("found" : Str)] DnLib.c17, 17⟩,
  ⟨dd "number_at" 26 [("row" : Str), ("place" : Str)] DnLib.c19, 19⟩,
  ⟨dd "added" 27 [("row" : Str), ("other" : Str), ("many" : Str), ("at" : Str)] DnLib.c20, 20⟩,
  ⟨dd "scaled" 28 [("number" : Str), ("row" : Str), ("each" : Str)] DnLib.c21, 21⟩,
  ⟨dd "multiplied" 29 [("row" : Str), ("other" : Str), ("found" : Str), ("place" : Str), ("one" : Str), ("at" : Str), ("two" : Str)] DnLib.c23, 23⟩,
  ⟨dd "parted_by" 30 [("row" : Str), ("other" : Str), ("left" : Str), ("found" : Str), ("shift" : Str), ("at" : Str), ("number" : Str)] DnLib.c24, 24⟩,
  ⟨dd "quotient_of" 31 [("row" : Str), ("other" : Str)] DnLib.c25, 25⟩,
  ⟨dd "first_of" 32 [("row" : Str), ("each" : Str)] DnLib.c27, 27⟩,
  ⟨dd "divisor_by" 33 [("row" : Str), ("other" : Str)] DnLib.c28, 28⟩,
  ⟨dd "is_led_by" 34 [("row" : Str)] DnLib.c31, 31⟩]
def items2 : List Item := [⟨dd "led_by" 35 [("row" : Str)] DnLib.c32, 32⟩,
  ⟨dd "next_numbers" 36 [("numbers" : Str), ("bend" : Str), ("under" : Str), ("back" : Str), ("one" : Str), ("two" : Str)] DnLib.c33, 33⟩,
  ⟨dd "bends_by" 37 [("row" : Str), ("numbers" : Str), ("found" : Str), ("bend" : Str)] DnLib.c34, 34⟩,
  ⟨dd "is_steady_by" 38 [("row" : Str)] DnLib.c35, 35⟩,
  ⟨dd "normal_of" 39 [("top" : Str), ("under" : Str), ("common" : Str), ("by" : Str)] DnLib.c36, 36⟩,
  ⟨dd "sum_by" 40 [("one" : Str), ("two" : Str), ("top" : Str)] DnLib.c284, 284⟩,
  ⟨dd "product_by" 41 [("one" : Str), ("two" : Str)] DnLib.c37, 37⟩,
  ⟨dd "is_row" 43 [("value" : Str), ("each" : Str)] DnLib.c38, 38⟩,
  ⟨dd "is_led" 44 [("value" : Str)] DnLib.c39, 39⟩,
  ⟨dd "check_row" 45 [("value" : Str)] DnLib.c285, 285⟩]
def items3 : List Item := [⟨dd "check_rows" 46 [("row" : Str), ("other" : Str)] DnLib.c286, 286⟩,
  ⟨dd "row_product" 47 [("row" : Str), ("other" : Str)] DnLib.c287, 287⟩,
  ⟨dd "is_answer" 49 [("value" : Str)] DnLib.c41, 41⟩,
  ⟨dd "check_answer" 50 [("value" : Str)] DnLib.c42, 42⟩,
  ⟨dd "check_answers" 51 [("answer" : Str), ("other" : Str)] DnLib.c288, 288⟩,
  ⟨dd "answer_sum" 52 [("answer" : Str), ("other" : Str)] DnLib.c289, 289⟩,
  ⟨dd "answer_product" 53 [("answer" : Str), ("other" : Str)] DnLib.c290, 290⟩,
  ⟨dd "answer_over" 54 [("answer" : Str), ("other" : Str)] DnLib.c291, 291⟩,
  ⟨dd "dies_out" 55 [("answer" : Str)] DnLib.c292, 292⟩,
  ⟨dd "is_machine" 57 [("value" : Str)] DnLib.c43, 43⟩]
def items4 : List Item := [⟨dd "is_helm" 58 [("value" : Str)] DnLib.c44, 44⟩,
  ⟨dd "check_machine" 59 [("value" : Str)] DnLib.c45, 45⟩,
  ⟨dd "check_helm" 60 [("value" : Str)] DnLib.c46, 46⟩,
  ⟨dd "check_pair" 61 [("machine" : Str), ("helm" : Str)] DnLib.c47, 47⟩,
  ⟨dd "closing_by" 63 [("machine" : Str), ("helm" : Str)] DnLib.c54, 54⟩,
  ⟨dd "is_closed_steady" 64 [("machine" : Str), ("helm" : Str)] DnLib.c55, 55⟩,
  ⟨dd "error_by" 65 [("machine" : Str), ("helm" : Str)] DnLib.c59, 59⟩,
  ⟨dd "answers_by" 68 [("machine" : Str), ("helm" : Str), ("n" : Str), ("m" : Str), ("a" : Str), ("b" : Str), ("c" : Str), ("first" : Str), ("second" : Str)] DnLib.c293, 293⟩,
  ⟨dd "closing_row" 69 [("machine" : Str), ("helm" : Str)] DnLib.c101, 101⟩,
  ⟨dd "four_answers" 70 [("machine" : Str), ("helm" : Str)] DnLib.c294, 294⟩]
def items5 : List Item := [⟨dd "error_answer" 72 [("machine" : Str), ("helm" : Str)] DnLib.c295, 295⟩,
  ⟨dd "_law_tap" 75 [("cask" : Str), ("top" : Str), ("digit" : Str), ("step" : Str)] DnLib.c144, 144⟩,
  ⟨dd "_law_of" 76 [("cask" : Str), ("some" : Str)] DnLib.c145, 145⟩,
  ⟨dd "_law_f" 77 [("up" : Str), ("low" : Str), ("one" : Str), ("two" : Str), ("turn" : Str)] DnLib.c146, 146⟩,
  ⟨dd "_law_add" 78 [("a" : Str), ("b" : Str)] DnLib.c147, 147⟩,
  ⟨dd "_law_sub" 79 [("a" : Str), ("b" : Str)] DnLib.c148, 148⟩,
  ⟨dd "_law_mul" 80 [("a" : Str), ("b" : Str)] DnLib.c149, 149⟩,
  ⟨dd "_law_div" 81 [("a" : Str), ("b" : Str)] DnLib.c150, 150⟩,
  ⟨dd "_law_trim" 82 [("some" : Str), ("many" : Str), ("at" : Str)] DnLib.c151, 151⟩,
  ⟨dd "_law_plus" 83 [("one" : Str), ("two" : Str), ("found" : Str), ("at" : Str), ("a" : Str)] DnLib.c152, 152⟩]
def items6 : List Item := [⟨dd "_law_by" 84 [("one" : Str), ("number" : Str), ("each" : Str)] DnLib.c153, 153⟩,
  ⟨dd "_law_less" 85 [("one" : Str), ("two" : Str)] DnLib.c154, 154⟩,
  ⟨dd "_law_times" 86 [("one" : Str), ("two" : Str), ("found" : Str), ("at" : Str), ("by" : Str)] DnLib.c155, 155⟩,
  ⟨dd "_law_parted" 87 [("one" : Str), ("two" : Str), ("rest" : Str), ("found" : Str), ("turn" : Str), ("at" : Str), ("by" : Str)] DnLib.c156, 156⟩,
  ⟨dd "_law_lead" 88 [("one" : Str), ("number" : Str), ("each" : Str)] DnLib.c157, 157⟩,
  ⟨dd "_law_common" 89 [("one" : Str), ("two" : Str), ("turn" : Str)] DnLib.c158, 158⟩,
  ⟨dd "_law_root" 90 [("x" : Str)] DnLib.c159, 159⟩,
  ⟨dd "_law_made" 91 [("zeros" : Str), ("found" : Str), ("x" : Str)] DnLib.c160, 160⟩,
  ⟨dd "_law_base" 92 [("n" : Str), ("m" : Str), ("one" : Str), ("two" : Str), ("e" : Str), ("f" : Str), ("turn" : Str), ("part" : Str), ("rest" : Str), ("p" : Str)] DnLib.c163, 163⟩,
  ⟨dd "_law_closing" 93 [("machine" : Str), ("helm" : Str)] DnLib.c164, 164⟩]
def items7 : List Item := [⟨dd "_law_helm" 94 [("n" : Str), ("m" : Str), ("wished" : Str), ("p" : Str), ("w" : Str), ("a" : Str)] DnLib.c165, 165⟩,
  ⟨dd "_law_steady" 95 [("cask" : Str), ("many" : Str), ("some" : Str), ("turn" : Str), ("menu" : Str), ("k" : Str), ("j" : Str), ("wide" : Str), ("i" : Str)] DnLib.c166, 166⟩,
  ⟨dd "_law_drawn_machine" 96 [("cask" : Str), ("left" : Str), ("zeros" : Str), ("poles" : Str), ("turn" : Str), ("gain" : Str), ("late" : Str), ("n" : Str), ("m" : Str), ("way" : Str), ("pairs" : Str)] DnLib.c167, 167⟩,
  ⟨dd "_law_drawn_helm" 97 [("cask" : Str), ("n" : Str), ("m" : Str), ("wished" : Str), ("a" : Str), ("b" : Str), ("more" : Str)] DnLib.c169, 169⟩,
  ⟨dd "_law_answer" 98 [("top" : Str), ("under" : Str), ("part" : Str)] DnLib.c171, 171⟩,
  ⟨dd "_law_with_hidden" 99 [("cask" : Str), ("n" : Str), ("m" : Str), ("part" : Str)] DnLib.c296, 296⟩,
  ⟨dd "_law_error" 100 [("machine" : Str), ("pair" : Str)] DnLib.c208, 208⟩]
def items : List Item := items0 ++ (items1 ++ (items2 ++ (items3 ++ (items4 ++ (items5 ++ (items6 ++ (items7)))))))
def mk : Dfn := dd "_law_cask" 74 [("script" : Str), ("turn" : Str), ("own" : Str), ("mixed" : Str), ("cell" : Str), ("seed" : Str)] DnLib.c143
def law : Dfn := dd "law" 101 [("script" : Str), ("cask" : Str), ("n" : Str), ("m" : Str), ("zeros" : Str), ("poles" : Str), ("machine" : Str), ("pair" : Str), ("error" : Str), ("told" : Str), ("one" : Str), ("less" : Str), ("c" : Str), ("due" : Str), ("gone" : Str), ("back" : Str), ("over_v" : Str), ("closed" : Str), ("answer" : Str)] DnLib.law_k81.body
def cs : List (Str × Nat × PyData) := [("ZERO", 0, (.tuple [(.int 0), (.int 1)])), ("ONE", 1, (.tuple [(.int 1), (.int 1)])), ("UNIT", 2, (.tuple [(.tuple [(.int 1), (.int 1)])])), ("LESS", 8, (.tuple [(.int (-1)), (.int 1)]))]
abbrev tab : Tab := ⟨fidsOf items, cs.map fun c => (c.1, c.2.1)⟩
theorem hT0 : AllI (fun i => DnLib.T i.id = some i.d.fn) items0 := ⟨rfl, rfl, rfl, rfl, rfl, rfl, rfl, rfl, rfl, rfl, trivial⟩
theorem hc0 : AllI (fun i => codeOk tab [] i.d) items0 := ⟨by unfold codeOk; kernel_rfl, by unfold codeOk; kernel_rfl, by unfold codeOk; kernel_rfl, by unfold codeOk; kernel_rfl, by unfold codeOk; kernel_rfl, by unfold codeOk; kernel_rfl, by unfold codeOk; kernel_rfl, by unfold codeOk; kernel_rfl, by unfold codeOk; kernel_rfl, by unfold codeOk; kernel_rfl, trivial⟩
theorem hT1 : AllI (fun i => DnLib.T i.id = some i.d.fn) items1 := ⟨rfl, rfl, rfl, rfl, rfl, rfl, rfl, rfl, rfl, rfl, trivial⟩
theorem hc1 : AllI (fun i => codeOk tab [] i.d) items1 := ⟨by unfold codeOk; kernel_rfl, by unfold codeOk; kernel_rfl, by unfold codeOk; kernel_rfl, by unfold codeOk; kernel_rfl, by unfold codeOk; kernel_rfl, by unfold codeOk; kernel_rfl, by unfold codeOk; kernel_rfl, by unfold codeOk; kernel_rfl, by unfold codeOk; kernel_rfl, by unfold codeOk; kernel_rfl, trivial⟩
theorem hT2 : AllI (fun i => DnLib.T i.id = some i.d.fn) items2 := ⟨rfl, rfl, rfl, rfl, rfl, rfl, rfl, rfl, rfl, rfl, trivial⟩
theorem hc2 : AllI (fun i => codeOk tab [] i.d) items2 := ⟨by unfold codeOk; kernel_rfl, by unfold codeOk; kernel_rfl, by unfold codeOk; kernel_rfl, by unfold codeOk; kernel_rfl, by unfold codeOk; kernel_rfl, by unfold codeOk; kernel_rfl, by unfold codeOk; kernel_rfl, by unfold codeOk; kernel_rfl, by unfold codeOk; kernel_rfl, by unfold codeOk; kernel_rfl, trivial⟩
theorem hT3 : AllI (fun i => DnLib.T i.id = some i.d.fn) items3 := ⟨rfl, rfl, rfl, rfl, rfl, rfl, rfl, rfl, rfl, rfl, trivial⟩
theorem hc3 : AllI (fun i => codeOk tab [] i.d) items3 := ⟨by unfold codeOk; kernel_rfl, by unfold codeOk; kernel_rfl, by unfold codeOk; kernel_rfl, by unfold codeOk; kernel_rfl, by unfold codeOk; kernel_rfl, by unfold codeOk; kernel_rfl, by unfold codeOk; kernel_rfl, by unfold codeOk; kernel_rfl, by unfold codeOk; kernel_rfl, by unfold codeOk; kernel_rfl, trivial⟩
theorem hT4 : AllI (fun i => DnLib.T i.id = some i.d.fn) items4 := ⟨rfl, rfl, rfl, rfl, rfl, rfl, rfl, rfl, rfl, rfl, trivial⟩
theorem hc4 : AllI (fun i => codeOk tab [] i.d) items4 := ⟨by unfold codeOk; kernel_rfl, by unfold codeOk; kernel_rfl, by unfold codeOk; kernel_rfl, by unfold codeOk; kernel_rfl, by unfold codeOk; kernel_rfl, by unfold codeOk; kernel_rfl, by unfold codeOk; kernel_rfl, by unfold codeOk; kernel_rfl, by unfold codeOk; kernel_rfl, by unfold codeOk; kernel_rfl, trivial⟩
theorem hT5 : AllI (fun i => DnLib.T i.id = some i.d.fn) items5 := ⟨rfl, rfl, rfl, rfl, rfl, rfl, rfl, rfl, rfl, rfl, trivial⟩
theorem hc5 : AllI (fun i => codeOk tab [] i.d) items5 := ⟨by unfold codeOk; kernel_rfl, by unfold codeOk; kernel_rfl, by unfold codeOk; kernel_rfl, by unfold codeOk; kernel_rfl, by unfold codeOk; kernel_rfl, by unfold codeOk; kernel_rfl, by unfold codeOk; kernel_rfl, by unfold codeOk; kernel_rfl, by unfold codeOk; kernel_rfl, by unfold codeOk; kernel_rfl, trivial⟩
theorem hT6 : AllI (fun i => DnLib.T i.id = some i.d.fn) items6 := ⟨rfl, rfl, rfl, rfl, rfl, rfl, rfl, rfl, rfl, rfl, trivial⟩
theorem hc6 : AllI (fun i => codeOk tab [] i.d) items6 := ⟨by unfold codeOk; kernel_rfl, by unfold codeOk; kernel_rfl, by unfold codeOk; kernel_rfl, by unfold codeOk; kernel_rfl, by unfold codeOk; kernel_rfl, by unfold codeOk; kernel_rfl, by unfold codeOk; kernel_rfl, by unfold codeOk; kernel_rfl, by unfold codeOk; kernel_rfl, by unfold codeOk; kernel_rfl, trivial⟩
theorem hT7 : AllI (fun i => DnLib.T i.id = some i.d.fn) items7 := ⟨rfl, rfl, rfl, rfl, rfl, rfl, rfl, trivial⟩
theorem hc7 : AllI (fun i => codeOk tab [] i.d) items7 := ⟨by unfold codeOk; kernel_rfl, by unfold codeOk; kernel_rfl, by unfold codeOk; kernel_rfl, by unfold codeOk; kernel_rfl, by unfold codeOk; kernel_rfl, by unfold codeOk; kernel_rfl, by unfold codeOk; kernel_rfl, trivial⟩
theorem hT : AllI (fun i => DnLib.T i.id = some i.d.fn) items := .app hT0 (.app hT1 (.app hT2 (.app hT3 (.app hT4 (.app hT5 (.app hT6 (hT7)))))))
theorem hc : AllI (fun i => codeOk tab [] i.d) items := .app hc0 (.app hc1 (.app hc2 (.app hc3 (.app hc4 (.app hc5 (.app hc6 (hc7)))))))
theorem hcm : codeOk tab [] mk := by unfold codeOk; kernel_rfl
theorem hcl : codeOk tab [(mk.name, 9999)] law := by unfold codeOk; kernel_rfl
theorem hs : ((items.map (·.d)) ++ [mk, law]).all Dfn.shape = true := by kernel_rfl
theorem hni : items.all (fun i => !decide (i.id = 9999)) = true := by kernel_rfl
theorem hG : ∀ c ∈ cs, DnLib.G c.2.1 = some c.2.2 := by
  intro c hc
  simp only [cs, List.mem_cons, List.mem_nil_iff, or_false] at hc
  rcases hc with rfl | rfl | rfl | rfl <;> rfl
theorem h1 : law.ps = [("script" : Str)] := by kernel_rfl
end Lw_k81
set_option Elab.async false
set_option linter.all false
set_option maxRecDepth 100000
set_option maxHeartbeats 0
/-! Hd_k81: the head's run (printed by genlaw.py). -/
namespace Lw_k81
open PySem PySem.Spec PyProof.Rows L2 Dn
abbrev R : PySem.W.OpenRow := PySem.W.OpenLaw.row PySem.Challenge.rw_allhelms_k81_whole_errors_beside_the_fou
abbrev ds : List Dfn := (items.map (·.d)) ++ [mk, law]
abbrev hk : PySem.W.Hook := hookN ds cs
def ob (s : PySem.W.SharedT) : AlN := obsNG ds cs (HandSHeadRun.getT s)
theorem ob_eq (s : PySem.W.SharedT) : ob s = hk.obs s.abs := obsNG_eq (HandSHeadRun.getT_eq s)
def lo0 : List Str := ["HelmError", "InvalidRow", "InvalidAnswer", "InvalidMachine", "InvalidHelm", "NotSteady", "NoughtFirst", "is_whole", "are_wholes", "divisor_of", "lowest", "ZERO", "ONE", "is_ratio", "ratio", "plus", "minus", "times", "over", "UNIT"]
def lo1 : List Str := ["trimmed", "number_at", "added", "scaled", "multiplied", "parted_by", "quotient_of", "first_of", "divisor_by", "is_led_by", "led_by", "next_numbers", "bends_by", "is_steady_by", "normal_of", "sum_by", "product_by", "is_row", "is_led", "check_row"]
def lo2 : List Str := ["check_rows", "row_product", "is_answer", "check_answer", "check_answers", "answer_sum", "answer_product", "answer_over", "dies_out", "is_machine", "is_helm", "check_machine", "check_helm", "check_pair", "closing_by", "is_closed_steady", "error_by", "LESS", "answers_by", "closing_row"]
def lo3 : List Str := ["four_answers", "error_answer", "_law_cask", "_law_tap", "_law_of", "_law_f", "_law_add", "_law_sub", "_law_mul", "_law_div", "_law_trim", "_law_plus", "_law_by", "_law_less", "_law_times", "_law_parted", "_law_lead", "_law_common", "_law_root", "_law_made"]
def lo4 : List Str := ["_law_base", "_law_closing", "_law_helm", "_law_steady", "_law_drawn_machine", "_law_drawn_helm", "_law_answer", "_law_with_hidden", "_law_error"]
def lo : List Str := lo0 ++ lo1 ++ lo2 ++ lo3 ++ lo4
theorem run (w : World) : HandSHeadRun.RunEqI R (PySem.W.view R.prog [0, 101]) hk ob 40000 lo w := by
  unfold HandSHeadRun.RunEqI
  kernel_rfl
end Lw_k81
set_option Elab.async false
set_option linter.all false
set_option maxRecDepth 100000
/-! DnM1: what the small defs compute: fractions. -/
namespace Dn
open PySem
/-- the turns that a while may make -/
abbrev MW : Nat := 10000
abbrev Ph (l : Nat) : Phi := phi MW DnLib.G DnLib.T l
/-- the def id, at most n calls deep, gives r; the cask is as it was -/
def At (n id : Nat) (as : List Sl) (r : PyData) : Prop := ∀ l k, n ≤ l → Ph l id as k = some (r, k)
theorem At.mk {n id : Nat} {as : List Sl} {r : PyData} {f : Fn} (hT : DnLib.T id = some f) (hp : as.all plainSl = true) (h : ∀ l k, n ≤ l → runFn (Ph l) DnLib.G MW f as k = some (r, k)) : At (n + 1) id as r := fun l k hl => by
  obtain ⟨l', rfl⟩ : ∃ l', l = l' + 1 := ⟨l - 1, by omega⟩
  show phi MW DnLib.G DnLib.T (l' + 1) id as k = _
  simp only [phi, hT, hp, if_true]
  exact h l' k (by omega)
theorem At.up {n n' id : Nat} {as : List Sl} {r : PyData} (h : At n id as r) (hn : n ≤ n') : At n' id as r := fun l k hl => h l k (by omega)
abbrev da (d : PyData) : Sl := .dat false d
theorem is_whole (d : PyData) : At 1 1 [da d] (.bool (isKind .isInt d && !isKind .isBool d)) := At.mk (n := 0) rfl rfl fun l k _ => by
  cases d <;> rfl
theorem divisor_pair (a b : Int) : At 1 4 [da (.tuple [.int a, .int b])] (.int (Nat.gcd a.natAbs b.natAbs : Nat)) := At.mk (n := 0) rfl rfl fun l k _ => by
  simp [runFn, DnLib.c4, denSs, denS, den, denA, denI, seqD, forD, bindP, envSet, CE.fresh, freeze, leakE, leakA, leakI, bltD, freeze1, List.modify]
theorem lowest_pair (a b : Int) (hb : b ≠ 0) : At 2 5 [da (.tuple [.int a, .int b])] (.tuple [.int (a.fdiv (Nat.gcd a.natAbs b.natAbs : Nat)), .int (b.fdiv (Nat.gcd a.natAbs b.natAbs : Nat))]) := At.mk (n := 1) rfl rfl fun l k hn => by
  have e := fun k => divisor_pair a b l k hn
  have hg : (Nat.gcd a.natAbs b.natAbs : Int) ≠ 0 := by
    intro z
    have : Nat.gcd a.natAbs b.natAbs = 0 := by exact_mod_cast z
    have := Nat.eq_zero_of_gcd_eq_zero_right this
    omega
  generalize Nat.gcd a.natAbs b.natAbs = g at e hg ⊢
  have hs : SeqAt.shaped (.int (g : Int)) = true := rfl
  have hs0 : SeqAt.shaped (.int 0) = true := rfl
  have he : PyData.eqv (.int (g : Int)) (.int 0) = false := by simpa [PyData.eqv] using hg
  have hg2 : g ≠ 0 := by omega
  simp [runFn, DnLib.c5, denSs, denS, den, denA, denI, seqD, compD, bindP, envSet, CE.fresh, freeze, leakE, leakA, leakI, bltD, freeze1, List.modify, cmpD, hs, hs0, he, e, lenOk, wipeD, binD, hg2]

/-- a number as the texts hold it -/
def enc (q : Rat) : PyData := .tuple [.int q.num, .int q.den]
theorem fdiv_dvd {a g : Int} (hg : 0 < g) : a.fdiv g = a / g := Int.fdiv_eq_ediv_of_nonneg a (Int.le_of_lt hg)
theorem enc_pos (a b : Int) (hb : 0 < b) : (.tuple [.int (a.fdiv (Nat.gcd a.natAbs b.natAbs : Nat)), .int (b.fdiv (Nat.gcd a.natAbs b.natAbs : Nat))] : PyData) = enc (Rat.divInt a b) := by
  have hg : 0 < Nat.gcd a.natAbs b.natAbs := Nat.gcd_pos_of_pos_right _ (by omega)
  have hgi : (0 : Int) < (Nat.gcd a.natAbs b.natAbs : Nat) := by omega
  unfold enc
  rw [fdiv_dvd hgi, fdiv_dvd hgi, Rat.num_divInt, Rat.den_divInt, if_neg (by omega)]
  have e : (Int.gcd b a : Nat) = Nat.gcd a.natAbs b.natAbs := by rw [Int.gcd_comm]; rfl
  rw [e, Int.sign_eq_one_of_pos hb, Int.one_mul]
  congr 1
  congr 1
  congr 1
  congr 1
  rw [Int.natCast_ediv]
  congr 1
  omega
theorem ratio_enc (a b : Int) (hb : b ≠ 0) : At 3 8 [da (.int a), da (.int b)] (enc (Rat.divInt a b)) := At.mk (n := 2) rfl rfl fun l k hn => by
  rcases Int.lt_or_gt_of_ne hb with h | h
  · have e := lowest_pair (-a) (-b) (by omega) l k hn
    rw [enc_pos _ _ (by omega), Rat.neg_divInt_neg] at e
    have h2 : ¬ 0 < b := by omega
    simp [runFn, DnLib.c8, denSs, denS, den, denA, freeze, leakE, leakA, cmpD, freeze1, h2, e, List.modify]
  · have e := lowest_pair a b hb l k hn
    rw [enc_pos _ _ h] at e
    simp [runFn, DnLib.c8, denSs, denS, den, denA, freeze, leakE, leakA, cmpD, freeze1, h, e, List.modify]

/-- small enough for a product -/
def Sm (q : Rat) : Prop := q.num.natAbs.log2 < 60000000 ∧ q.den.log2 < 60000000
theorem mulOk_of {i j : Int} (h1 : i.natAbs.log2 < 60000000) (h2 : j.natAbs.log2 < 60000000) : mulOk i j = true := by
  unfold mulOk
  simp [h1, h2]
theorem den_ne (q : Rat) : (q.den : Int) ≠ 0 := by have := q.den_nz; omega
theorem plus_enc (p q : Rat) (hp : Sm p) (hq : Sm q) : At 4 9 [da (enc p), da (enc q)] (enc (p + q)) := At.mk (n := 3) rfl rfl fun l k hn => by
  have e := ratio_enc (p.num * q.den + q.num * p.den) (p.den * q.den) (Int.mul_ne_zero (den_ne p) (den_ne q)) l k hn
  have h1 : mulOk p.num q.den = true := mulOk_of hp.1 hq.2
  have h2 : mulOk q.num p.den = true := mulOk_of hq.1 hp.2
  have h3 : mulOk p.den q.den = true := mulOk_of hp.2 hq.2
  have e2 : Rat.divInt (p.num * q.den + q.num * p.den) (p.den * q.den) = p + q := by
    rw [Rat.add_def', ← Rat.divInt_ofNat, Int.natCast_mul]
  rw [e2] at e
  simp [runFn, DnLib.c9, denSs, denS, den, denA, freeze, leakE, leakA, freeze1, binD, idxD, ixD, enc, h1, h2, h3, e, List.modify]
theorem minus_enc (p q : Rat) (hp : Sm p) (hq : Sm q) : At 4 10 [da (enc p), da (enc q)] (enc (p - q)) := At.mk (n := 3) rfl rfl fun l k hn => by
  have e := ratio_enc (p.num * q.den - q.num * p.den) (p.den * q.den) (Int.mul_ne_zero (den_ne p) (den_ne q)) l k hn
  have h1 : mulOk p.num q.den = true := mulOk_of hp.1 hq.2
  have h2 : mulOk q.num p.den = true := mulOk_of hq.1 hp.2
  have h3 : mulOk p.den q.den = true := mulOk_of hp.2 hq.2
  have e2 : Rat.divInt (p.num * q.den - q.num * p.den) (p.den * q.den) = p - q := by
    rw [Rat.sub_def', ← Rat.divInt_ofNat, Int.natCast_mul]
  rw [e2] at e
  simp [runFn, DnLib.c10, denSs, denS, den, denA, freeze, leakE, leakA, freeze1, binD, idxD, ixD, enc, h1, h2, h3, e, List.modify]
theorem times_enc (p q : Rat) (hp : Sm p) (hq : Sm q) : At 4 11 [da (enc p), da (enc q)] (enc (p * q)) := At.mk (n := 3) rfl rfl fun l k hn => by
  have e := ratio_enc (p.num * q.num) (p.den * q.den) (Int.mul_ne_zero (den_ne p) (den_ne q)) l k hn
  have h1 : mulOk p.num q.num = true := mulOk_of hp.1 hq.1
  have h3 : mulOk p.den q.den = true := mulOk_of hp.2 hq.2
  have e2 : Rat.divInt (p.num * q.num) (p.den * q.den) = p * q := by
    rw [Rat.mul_def', ← Rat.divInt_ofNat, Int.natCast_mul]
  rw [e2] at e
  simp [runFn, DnLib.c11, denSs, denS, den, denA, freeze, leakE, leakA, freeze1, binD, idxD, ixD, enc, h1, h3, e, List.modify]
theorem over_enc (p q : Rat) (hp : Sm p) (hq : Sm q) (h0 : q ≠ 0) : At 4 12 [da (enc p), da (enc q)] (enc (p / q)) := At.mk (n := 3) rfl rfl fun l k hn => by
  have hz : q.num ≠ 0 := fun z => h0 (Rat.num_eq_zero.mp z)
  have e := ratio_enc (p.num * q.den) (p.den * q.num) (Int.mul_ne_zero (den_ne p) hz) l k hn
  have h1 : mulOk p.num q.den = true := mulOk_of hp.1 hq.2
  have h3 : mulOk p.den q.num = true := mulOk_of hp.2 hq.1
  have e2 : Rat.divInt (p.num * q.den) (p.den * q.num) = p / q := by
    rw [← Rat.divInt_mul_divInt, Rat.num_divInt_den, Rat.div_def, ← Rat.inv_divInt, Rat.num_divInt_den]
  rw [e2] at e
  simp [runFn, DnLib.c12, denSs, denS, den, denA, freeze, leakE, leakA, freeze1, binD, idxD, ixD, enc, h1, h3, e, List.modify]
end Dn
set_option Elab.async false
set_option linter.all false
/-! DnP1: polynomials over Rat: trimmed lists; a commutative ring. Plain Lean. -/
namespace Dn
/-- without the noughts at its end -/
def trim : List Rat → List Rat
  | [] => []
  | q :: f => match trim f with
    | [] => if q = 0 then [] else [q]
    | r => q :: r
/-- the number at a place -/
def cf : List Rat → Nat → Rat
  | [], _ => 0
  | a :: _, 0 => a
  | _ :: f, i + 1 => cf f i
theorem cf_eq : ∀ (f : List Rat) (i : Nat), cf f i = f.getD i 0
  | [], _ => rfl
  | _ :: _, 0 => rfl
  | a :: f, i + 1 => by rw [cf, cf_eq f i]; rfl
@[simp] theorem cf_nil (i : Nat) : cf [] i = 0 := rfl
@[simp] theorem cf_zero (a : Rat) (f : List Rat) : cf (a :: f) 0 = a := rfl
@[simp] theorem cf_succ (a : Rat) (f : List Rat) (i : Nat) : cf (a :: f) (i + 1) = cf f i := rfl
theorem cf_trim : ∀ (f : List Rat) (i : Nat), cf (trim f) i = cf f i
  | [], i => rfl
  | q :: f, i => by
    have ih := cf_trim f
    unfold trim
    cases h : trim f with
    | nil =>
      rw [h] at ih
      by_cases hq : q = 0
      · simp only [hq, if_true, cf_nil]
        cases i with
        | zero => rfl
        | succ i => rw [cf_succ, ← ih, cf_nil]
      · simp only [hq, if_false]
        cases i with
        | zero => rfl
        | succ i => rw [cf_succ, cf_succ, ← ih]
    | cons a r =>
      rw [h] at ih
      cases i with
      | zero => rfl
      | succ i => rw [cf_succ]; exact ih i
theorem trim_zero : ∀ f : List Rat, (∀ i, cf f i = 0) → trim f = []
  | [], _ => rfl
  | q :: f, h => by
    have h0 : q = 0 := h 0
    have ih := trim_zero f fun i => h (i + 1)
    simp [trim, ih, h0]
theorem trim_tail {q : Rat} {f : List Rat} (h : trim (q :: f) = q :: f) : trim f = f := by
  unfold trim at h
  cases hf : trim f with
  | nil =>
    rw [hf] at h
    by_cases hq : q = 0
    · simp [hq] at h
    · simp [hq] at h; exact h.symm
  | cons a r =>
    rw [hf] at h
    exact (List.cons.inj h).2
theorem trim_ext : ∀ f g : List Rat, (∀ i, cf f i = cf g i) → trim f = trim g
  | [], g, h => by rw [trim_zero g fun i => (h i).symm]; rfl
  | a :: f, [], h => by rw [trim_zero (a :: f) fun i => (h i)]; rfl
  | a :: f, b :: g, h => by
    have h0 : a = b := h 0
    have ih := trim_ext f g fun i => h (i + 1)
    simp only [trim, ih, h0]
theorem trim_trim (f : List Rat) : trim (trim f) = trim f := trim_ext _ _ (cf_trim f)

/-! ### on lists -/
def addL : List Rat → List Rat → List Rat
  | [], g => g
  | f, [] => f
  | a :: f, b :: g => (a + b) :: addL f g
def smL (c : Rat) (f : List Rat) : List Rat := f.map (c * ·)
def mulL : List Rat → List Rat → List Rat
  | [], _ => []
  | a :: f, g => addL (smL a g) (0 :: mulL f g)
theorem cf_addL : ∀ (f g : List Rat) (i : Nat), cf (addL f g) i = cf f i + cf g i
  | [], g, i => by simp only [addL, cf_nil]; grind
  | a :: f, [], i => by simp only [addL, cf_nil]; grind
  | a :: f, b :: g, 0 => rfl
  | a :: f, b :: g, i + 1 => by simp only [addL, cf_succ]; exact cf_addL f g i
theorem cf_smL (c : Rat) : ∀ (f : List Rat) (i : Nat), cf (smL c f) i = c * cf f i
  | [], i => by simp only [smL, List.map_nil, cf_nil]; grind
  | a :: f, 0 => rfl
  | a :: f, i + 1 => cf_smL c f i
theorem cf_mul0 (a : Rat) (f g : List Rat) : cf (mulL (a :: f) g) 0 = a * cf g 0 := by simp only [mulL, cf_addL, cf_smL, cf_zero]; grind
theorem cf_mulS (a : Rat) (f g : List Rat) (i : Nat) : cf (mulL (a :: f) g) (i + 1) = a * cf g (i + 1) + cf (mulL f g) i := by simp only [mulL, cf_addL, cf_smL, cf_succ]
theorem cf_mulR : ∀ (f g h : List Rat), (∀ i, cf g i = cf h i) → ∀ i, cf (mulL f g) i = cf (mulL f h) i
  | [], _, _, _, _ => rfl
  | a :: f, g, h, e, 0 => by rw [cf_mul0, cf_mul0, e]
  | a :: f, g, h, e, i + 1 => by rw [cf_mulS, cf_mulS, e, cf_mulR f g h e]
theorem cf_mulA : ∀ (f g h : List Rat) (i : Nat), cf (mulL f (addL g h)) i = cf (mulL f g) i + cf (mulL f h) i
  | [], g, h, i => by simp only [mulL, cf_nil]; grind
  | a :: f, g, h, 0 => by simp only [cf_mul0, cf_addL]; grind
  | a :: f, g, h, i + 1 => by simp only [cf_mulS, cf_addL, cf_mulA f g h i]; grind
theorem cf_addM : ∀ (f g h : List Rat) (i : Nat), cf (mulL (addL f g) h) i = cf (mulL f h) i + cf (mulL g h) i
  | [], g, h, i => by simp only [addL, mulL, cf_nil]; grind
  | a :: f, [], h, i => by simp only [addL, mulL, cf_nil]; grind
  | a :: f, b :: g, h, 0 => by simp only [addL, cf_mul0]; grind
  | a :: f, b :: g, h, i + 1 => by simp only [addL, cf_mulS, cf_addM f g h i]; grind
theorem cf_smM (c : Rat) : ∀ (f g : List Rat) (i : Nat), cf (mulL (smL c f) g) i = c * cf (mulL f g) i
  | [], g, i => by simp only [smL, List.map_nil, mulL, cf_nil]; grind
  | a :: f, g, 0 => by
    show cf (mulL (c * a :: smL c f) g) 0 = _
    simp only [cf_mul0]; grind
  | a :: f, g, i + 1 => by
    show cf (mulL (c * a :: smL c f) g) (i + 1) = _
    simp only [cf_mulS, cf_smM c f g i]; grind
theorem cf_mulC0 (b : Rat) (g : List Rat) : ∀ (f : List Rat), cf (mulL f (b :: g)) 0 = b * cf f 0
  | [] => by simp only [mulL, cf_nil]; grind
  | a :: f => by simp only [cf_mul0, cf_zero]; grind
theorem cf_mulCS (b : Rat) (g : List Rat) : ∀ (f : List Rat) (i : Nat), cf (mulL f (b :: g)) (i + 1) = b * cf f (i + 1) + cf (mulL f g) i
  | [], i => by simp only [mulL, cf_nil]; grind
  | a :: f, 0 => by simp only [cf_mulS, cf_succ, cf_mulC0, cf_mul0]; grind
  | a :: f, i + 1 => by simp only [cf_mulS, cf_succ, cf_mulCS b g f i]; grind
theorem cf_mulN : ∀ (f : List Rat) (i : Nat), cf (mulL f []) i = 0
  | [], i => rfl
  | a :: f, 0 => by simp only [cf_mul0, cf_nil]; grind
  | a :: f, i + 1 => by simp only [cf_mulS, cf_nil, cf_mulN f i]; grind
theorem cf_comm (f : List Rat) : ∀ (g : List Rat) (i : Nat), cf (mulL f g) i = cf (mulL g f) i
  | [], i => cf_mulN f i
  | b :: g, 0 => by rw [cf_mulC0, cf_mul0]
  | b :: g, i + 1 => by rw [cf_mulCS, cf_mulS, cf_comm f g i]
theorem cf_assoc : ∀ (f g h : List Rat) (i : Nat), cf (mulL (mulL f g) h) i = cf (mulL f (mulL g h)) i
  | [], g, h, i => rfl
  | a :: f, g, h, 0 => by
    show cf (mulL (addL (smL a g) (0 :: mulL f g)) h) 0 = _
    rw [cf_addM, cf_smM, cf_mul0, cf_mul0]; grind
  | a :: f, g, h, i + 1 => by
    show cf (mulL (addL (smL a g) (0 :: mulL f g)) h) (i + 1) = _
    rw [cf_addM, cf_smM, cf_mulS, cf_mulS, cf_assoc f g h i]; grind
theorem cf_one (f : List Rat) : ∀ i : Nat, cf (mulL [1] f) i = cf f i
  | 0 => by rw [cf_mul0]; grind
  | i + 1 => by rw [cf_mulS]; simp only [mulL, cf_nil]; grind

/-! ### the ring -/
structure P where
  l : List Rat
  h : trim l = l
namespace P
def mk' (f : List Rat) : P := ⟨trim f, trim_trim f⟩
/-- the number at a place -/
def c (p : P) (i : Nat) : Rat := cf p.l i
theorem ext {p q : P} (h : ∀ i, p.c i = q.c i) : p = q := by
  obtain ⟨f, hf⟩ := p
  obtain ⟨g, hg⟩ := q
  have e : f = g := by rw [← hf, ← hg]; exact trim_ext f g h
  subst e; rfl
theorem c_mk (f : List Rat) (i : Nat) : (mk' f).c i = cf f i := cf_trim f i
/-- a number as a polynomial -/
def C (a : Rat) : P := mk' [a]
instance : Zero P := ⟨⟨[], rfl⟩⟩
instance : Add P := ⟨fun p q => mk' (addL p.l q.l)⟩
instance : Mul P := ⟨fun p q => mk' (mulL p.l q.l)⟩
instance : Neg P := ⟨fun p => mk' (smL (-1) p.l)⟩
instance : Sub P := ⟨fun p q => mk' (addL p.l (smL (-1) q.l))⟩
instance : NatCast P := ⟨fun n => C n⟩
instance : IntCast P := ⟨fun n => C n⟩
instance (n : Nat) : OfNat P n := ⟨C n⟩
def pow (p : P) : Nat → P
  | 0 => 1
  | n + 1 => pow p n * p
instance : HPow P Nat P := ⟨pow⟩
theorem c_add (p q : P) (i : Nat) : (p + q).c i = p.c i + q.c i := by show (mk' _).c i = _; rw [c_mk, cf_addL]; rfl
theorem c_mul (p q : P) (i : Nat) : (p * q).c i = cf (mulL p.l q.l) i := by show (mk' _).c i = _; rw [c_mk]
theorem c_neg (p : P) (i : Nat) : (-p).c i = -p.c i := by show (mk' _).c i = _; rw [c_mk, cf_smL]; show -1 * p.c i = _; grind
theorem c_sub (p q : P) (i : Nat) : (p - q).c i = p.c i - q.c i := by
  show (mk' _).c i = _
  rw [c_mk, cf_addL, cf_smL]
  show p.c i + -1 * q.c i = _
  grind
theorem c_C0 (a : Rat) : (C a).c 0 = a := by unfold C; rw [c_mk]; rfl
theorem c_CS (a : Rat) (i : Nat) : (C a).c (i + 1) = 0 := by unfold C; rw [c_mk]; rfl
theorem c_zero (i : Nat) : (0 : P).c i = 0 := by
  show (C 0).c i = 0
  cases i with
  | zero => exact c_C0 _
  | succ i => exact c_CS _ i
theorem c_natC (n : Nat) (i : Nat) : (OfNat.ofNat n : P).c i = (C n).c i := rfl
theorem nat_mul (n : Nat) (p : P) (i : Nat) : (C n * p).c i = n * p.c i := by
  rw [c_mul]
  have e : cf (mulL (C n).l p.l) i = cf (mulL [(n : Rat)] p.l) i := by
    rw [cf_comm, cf_comm [(n : Rat)]]
    refine cf_mulR _ _ _ (fun j => cf_trim _ j) i
  rw [e]
  cases i with
  | zero => rw [cf_mul0]; rfl
  | succ i => rw [cf_mulS]; simp only [mulL, cf_nil]; show _ * p.c (i+1) + 0 = _; grind
theorem C_mul (a : Rat) (p : P) (i : Nat) : (C a * p).c i = a * p.c i := by
  rw [c_mul]
  have e : cf (mulL (C a).l p.l) i = cf (mulL [a] p.l) i := by
    rw [cf_comm, cf_comm [a]]
    refine cf_mulR _ _ _ (fun j => cf_trim _ j) i
  rw [e]
  cases i with
  | zero => rw [cf_mul0]; rfl
  | succ i => rw [cf_mulS]; simp only [mulL, cf_nil]; show _ * p.c (i+1) + 0 = _; grind
theorem mul_comm' (p q : P) : p * q = q * p := ext fun i => by rw [c_mul, c_mul, cf_comm]
theorem mul_assoc' (p q r : P) : p * q * r = p * (q * r) := ext fun i => by
  have e1 : cf (mulL (p * q).l r.l) i = cf (mulL (mulL p.l q.l) r.l) i := by
    rw [cf_comm, cf_comm (mulL p.l q.l)]
    exact cf_mulR _ _ _ (fun j => cf_trim _ j) i
  have e2 : cf (mulL p.l (q * r).l) i = cf (mulL p.l (mulL q.l r.l)) i := cf_mulR _ _ _ (fun j => cf_trim _ j) i
  rw [c_mul, c_mul, e1, e2, cf_assoc]
theorem mul_add' (p q r : P) : p * (q + r) = p * q + p * r := ext fun i => by
  have e2 : cf (mulL p.l (q + r).l) i = cf (mulL p.l (addL q.l r.l)) i := cf_mulR _ _ _ (fun j => cf_trim _ j) i
  rw [c_add, c_mul, c_mul, c_mul, e2, cf_mulA]
theorem one_mul' (p : P) : 1 * p = p := ext fun i => by
  show (C ((1 : Nat) : Rat) * p).c i = _
  rw [C_mul]
  have : ((1 : Nat) : Rat) = 1 := rfl
  rw [this]; grind
theorem C_add (a b : Rat) : C (a + b) = C a + C b := ext fun i => by
  rw [c_add]
  cases i with
  | zero => simp only [c_C0]
  | succ i => simp only [c_CS]; grind
theorem C_neg (a : Rat) : C (-a) = -C a := ext fun i => by
  rw [c_neg]
  cases i with
  | zero => simp only [c_C0]
  | succ i => simp only [c_CS]; grind
theorem C_mulC (a b : Rat) : C (a * b) = C a * C b := ext fun i => by
  rw [C_mul]
  cases i with
  | zero => simp only [c_C0]
  | succ i => simp only [c_CS]; grind
theorem zero_mul' (a : P) : 0 * a = 0 := ext fun i => by
  show (C 0 * a).c i = _
  rw [C_mul, c_zero]; grind
theorem mul_zero' (a : P) : a * 0 = 0 := by rw [mul_comm', zero_mul']
instance : Lean.Grind.CommRing P where
  nsmul := ⟨fun n p => (n : P) * p⟩
  zsmul := ⟨fun n p => (n : P) * p⟩
  add_zero a := ext fun i => by rw [c_add, c_zero]; grind
  add_comm a b := ext fun i => by rw [c_add, c_add]; grind
  add_assoc a b c := ext fun i => by simp only [c_add]; grind
  mul_assoc := mul_assoc'
  mul_comm := mul_comm'
  mul_one a := by rw [mul_comm']; exact one_mul' a
  left_distrib := mul_add'
  one_mul := one_mul'
  right_distrib a b c := by rw [mul_comm', mul_add', mul_comm' c, mul_comm' c]
  mul_zero := mul_zero'
  zero_mul := zero_mul'
  pow_zero a := rfl
  pow_succ a n := rfl
  ofNat_succ n := by
    show C ((n + 1 : Nat) : Rat) = C (n : Rat) + C ((1 : Nat) : Rat)
    rw [← C_add]
    congr 1
    exact Rat.natCast_add n 1
  sub_eq_add_neg a b := ext fun i => by rw [c_sub, c_add, c_neg]; grind
  neg_add_cancel a := ext fun i => by rw [c_add, c_neg, c_zero]; grind
  neg_zsmul i a := by
    show C ((-i : Int) : Rat) * a = -(C (i : Rat) * a)
    rw [Rat.intCast_neg]
    apply ext; intro j
    rw [c_neg, C_mul, C_mul]; grind
  zsmul_natCast_eq_nsmul n a := rfl
  intCast_ofNat n := rfl
  intCast_neg i := by
    show C ((-i : Int) : Rat) = -C (i : Rat)
    rw [Rat.intCast_neg, C_neg]
theorem C_zero : C 0 = 0 := rfl
theorem C_one : C 1 = 1 := rfl
theorem C_sub (a b : Rat) : C (a - b) = C a - C b := by rw [Rat.sub_eq_add_neg, C_add, C_neg]; grind
example (a b : P) : (a + b) * (a - b) = a * a - b * b := by grind
end P
end Dn
set_option Elab.async false
set_option linter.all false
/-! DnP2: lengths, no divisors of nought, sizes (sum of sizes, common denominators). -/
namespace Dn
theorem cf_ge : ∀ (f : List Rat) (i : Nat), f.length ≤ i → cf f i = 0
  | [], _, _ => rfl
  | a :: f, 0, h => by simp at h
  | a :: f, i + 1, h => cf_ge f i (by simp at h; omega)
theorem trim_last : ∀ f : List Rat, trim f = f → f ≠ [] → cf f (f.length - 1) ≠ 0
  | [], _, h => absurd rfl h
  | [a], h, _ => by
    intro z
    have z : a = 0 := z
    simp [trim, z] at h
  | a :: b :: f, h, _ => trim_last (b :: f) (trim_tail h) (by simp)
namespace P
def len (p : P) : Nat := p.l.length
def lead (p : P) : Rat := p.c (p.len - 1)
theorem c_ge {p : P} {i : Nat} (h : p.len ≤ i) : p.c i = 0 := cf_ge _ _ h
theorem eq_zero {p : P} (h : p.len = 0) : p = 0 := ext fun i => by rw [c_ge (by omega), c_zero]
theorem len_zero : (0 : P).len = 0 := rfl
theorem lead_ne {p : P} (h : p ≠ 0) : p.lead ≠ 0 := by
  apply trim_last _ p.h
  intro z
  exact h (eq_zero (by unfold len; rw [z]; rfl))
theorem len_pos {p : P} (h : p ≠ 0) : 0 < p.len := Nat.pos_of_ne_zero fun z => h (eq_zero z)
theorem len_le {p : P} {n : Nat} (h : ∀ i, n ≤ i → p.c i = 0) : p.len ≤ n := by
  by_cases hp : p = 0
  · subst hp; rw [len_zero]; omega
  · have h1 := len_pos hp
    have h2 := lead_ne hp
    by_cases hn : p.len ≤ n
    · exact hn
    · exact absurd (h (p.len - 1) (by omega)) h2
theorem len_eq {p : P} {n : Nat} (h : ∀ i, n < i → p.c i = 0) (h0 : p.c n ≠ 0) : p.len = n + 1 := by
  have h1 := len_le (p := p) (n := n + 1) fun i hi => h i (by omega)
  by_cases hn : p.len ≤ n
  · exact absurd (c_ge hn) h0
  · omega
theorem len_mk (f : List Rat) : (mk' f).len ≤ f.length := len_le fun i h => by rw [c_mk, cf_ge _ _ h]
theorem len_add (p q : P) : (p + q).len ≤ max p.len q.len := len_le fun i h => by
  rw [c_add, c_ge (by omega), c_ge (by omega)]; grind
theorem len_sub (p q : P) : (p - q).len ≤ max p.len q.len := len_le fun i h => by
  rw [c_sub, c_ge (by omega), c_ge (by omega)]; grind
theorem len_neg (p : P) : (-p).len ≤ p.len := len_le fun i h => by rw [c_neg, c_ge (by omega)]; grind
theorem len_C (a : Rat) : (C a).len ≤ 1 := len_le fun i h => by
  obtain ⟨j, rfl⟩ : ∃ j, i = j + 1 := ⟨i - 1, by omega⟩
  exact c_CS a j
theorem mulL_top : ∀ (f g : List Rat) (n m : Nat), (∀ i, n < i → cf f i = 0) → (∀ i, m < i → cf g i = 0) → cf (mulL f g) (n + m) = cf f n * cf g m ∧ ∀ i, n + m < i → cf (mulL f g) i = 0
  | [], g, n, m, _, _ => ⟨by simp only [mulL, cf_nil]; grind, fun i _ => rfl⟩
  | a :: f, g, 0, m, hf, hg => by
    have hz : ∀ i, cf (mulL f g) i = 0 := by
      intro i
      rw [cf_comm]
      have e := cf_mulR g f [] (fun j => by rw [cf_nil]; exact hf (j + 1) (by omega)) i
      rw [e, cf_mulN]
    constructor
    · cases m with
      | zero => rw [cf_mul0]; rfl
      | succ m =>
        rw [show (0 : Nat) + (m + 1) = m + 1 by omega, cf_mulS, hz]
        show _ = a * _
        grind
    · intro i hi
      obtain ⟨j, rfl⟩ : ∃ j, i = j + 1 := ⟨i - 1, by omega⟩
      rw [cf_mulS, hz, hg (j + 1) (by omega)]; grind
  | a :: f, g, n + 1, m, hf, hg => by
    have ih := mulL_top f g n m (fun i hi => hf (i + 1) (by omega)) hg
    constructor
    · rw [show n + 1 + m = (n + m) + 1 by omega, cf_mulS, ih.1, hg (n + m + 1) (by omega), cf_succ]; grind
    · intro i hi
      obtain ⟨j, rfl⟩ : ∃ j, i = j + 1 := ⟨i - 1, by omega⟩
      rw [cf_mulS, ih.2 j (by omega), hg (j + 1) (by omega)]; grind
theorem len_mul {p q : P} (hp : p ≠ 0) (hq : q ≠ 0) : (p * q).len + 1 = p.len + q.len ∧ (p * q).lead = p.lead * q.lead ∧ p * q ≠ 0 := by
  have h1 := len_pos hp
  have h2 := len_pos hq
  have t := mulL_top p.l q.l (p.len - 1) (q.len - 1) (fun i hi => c_ge (p := p) (by omega)) (fun i hi => c_ge (p := q) (by omega))
  have e0 : (p * q).c (p.len - 1 + (q.len - 1)) = p.lead * q.lead := by rw [c_mul, t.1]; rfl
  have hne : p.lead * q.lead ≠ 0 := by
    have := lead_ne hp
    have := lead_ne hq
    grind
  have e := len_eq (p := p * q) (n := p.len - 1 + (q.len - 1)) (fun i hi => by rw [c_mul]; exact t.2 i hi) (by rw [e0]; exact hne)
  refine ⟨by omega, ?_, ?_⟩
  · show (p * q).c ((p * q).len - 1) = _
    rw [← e0, e]; rfl
  · intro z
    rw [z, len_zero] at e
    omega
theorem mul_ne {p q : P} (hp : p ≠ 0) (hq : q ≠ 0) : p * q ≠ 0 := (len_mul hp hq).2.2
theorem cancel {p q r : P} (hp : p ≠ 0) (h : p * q = p * r) : q = r := by
  by_cases e : q - r = 0
  · grind
  · exact absurd (show p * (q - r) = 0 by grind) (mul_ne hp e)
theorem len_mul_le (p q : P) : (p * q).len ≤ p.len + q.len - 1 := by
  by_cases hp : p = 0
  · subst hp
    rw [show (0 : P) * q = 0 by grind, len_zero]; omega
  · by_cases hq : q = 0
    · subst hq
      rw [show p * (0 : P) = 0 by grind, len_zero]; omega
    · have := len_mul hp hq
      omega
theorem c0_mul (p q : P) : (p * q).c 0 = p.c 0 * q.c 0 := by
  rw [c_mul]
  cases h : p.l with
  | nil => show _ = cf p.l 0 * _; rw [h]; simp only [mulL, cf_nil]; grind
  | cons a f =>
    rw [cf_mul0]
    show a * q.c 0 = cf p.l 0 * _
    rw [h]; rfl
/-- the delay -/
def X : P := mk' [0, 1]
theorem X_mul0 (p : P) : (X * p).c 0 = 0 := by
  rw [c0_mul]
  show cf _ 0 * _ = _
  have : (X).c 0 = 0 := c_mk _ _
  show X.c 0 * _ = _
  rw [this]; grind
theorem X_mulS (p : P) (i : Nat) : (X * p).c (i + 1) = p.c i := by
  rw [c_mul]
  have e : cf (mulL X.l p.l) (i + 1) = cf (mulL [0, 1] p.l) (i + 1) := by
    rw [cf_comm, cf_comm [(0 : Rat), 1]]
    exact cf_mulR _ _ _ (fun j => cf_trim _ j) _
  rw [e, cf_mulS]
  show 0 * _ + cf (mulL [1] p.l) i = _
  rw [cf_one]
  show 0 * _ + p.c i = _
  grind
theorem Xk_mul : ∀ (k : Nat) (p : P) (i : Nat), (X ^ k * p).c (i + k) = p.c i
  | 0, p, i => by rw [Lean.Grind.Semiring.pow_zero, Lean.Grind.Semiring.one_mul]; rfl
  | k + 1, p, i => by
    rw [show X ^ (k + 1) * p = X * (X ^ k * p) by rw [Lean.Grind.Semiring.pow_succ]; grind, ← Nat.add_assoc, X_mulS, Xk_mul k p i]
theorem Xk_low : ∀ (k : Nat) (p : P) (i : Nat), i < k → (X ^ k * p).c i = 0
  | 0, p, i, h => by omega
  | k + 1, p, 0, h => by
    rw [show X ^ (k + 1) * p = X * (X ^ k * p) by rw [Lean.Grind.Semiring.pow_succ]; grind, X_mul0]
  | k + 1, p, i + 1, h => by
    rw [show X ^ (k + 1) * p = X * (X ^ k * p) by rw [Lean.Grind.Semiring.pow_succ]; grind, X_mulS, Xk_low k p i (by omega)]
theorem mk_cons (a : Rat) (f : List Rat) : mk' (a :: f) = C a + X * mk' f := ext fun i => by
  rw [c_mk, c_add]
  cases i with
  | zero => rw [X_mul0, c_C0, cf_zero]; grind
  | succ i => rw [X_mulS, c_CS, c_mk, cf_succ]; grind
theorem mk_nil : mk' [] = 0 := rfl
theorem mk_l (p : P) : mk' p.l = p := ext fun i => c_mk _ _
theorem mk_set : ∀ (f : List Rat) (i : Nat) (v : Rat), i < f.length → mk' (f.set i v) = mk' f + C (v - cf f i) * X ^ i
  | [], i, v, h => by simp at h
  | a :: f, 0, v, h => by
    rw [List.set_cons_zero, mk_cons, mk_cons, cf_zero, C_sub, Lean.Grind.Semiring.pow_zero]; grind
  | a :: f, i + 1, v, h => by
    rw [List.set_cons_succ, mk_cons, mk_cons, cf_succ, mk_set f i v (by simpa using h), Lean.Grind.Semiring.pow_succ]; grind
theorem mk_zeros : ∀ n : Nat, mk' (List.replicate n 0) = 0
  | 0 => rfl
  | n + 1 => by rw [List.replicate_succ, mk_cons, mk_zeros n, C_zero]; grind
/-- the worth -/
def ev (p : P) (x : Rat) : Rat := p.l.foldr (fun a s => a + x * s) 0
theorem ev_list : ∀ (f g : List Rat) (x : Rat), (∀ i, cf f i = cf g i) → f.foldr (fun a s => a + x * s) 0 = g.foldr (fun a s => a + x * s) 0
  | [], [], _, _ => rfl
  | [], b :: g, x, h => by
    have e := ev_list [] g x fun i => h (i + 1)
    have h0 : (0 : Rat) = b := h 0
    simp only [List.foldr_cons, List.foldr_nil] at e ⊢
    rw [← e, ← h0]; grind
  | a :: f, [], x, h => by
    have e := ev_list f [] x fun i => h (i + 1)
    have h0 : a = (0 : Rat) := h 0
    simp only [List.foldr_cons, List.foldr_nil] at e ⊢
    rw [e, h0]; grind
  | a :: f, b :: g, x, h => by
    have e := ev_list f g x fun i => h (i + 1)
    have h0 : a = b := h 0
    simp only [List.foldr_cons]
    rw [e, h0]
theorem ev_mk (f : List Rat) (x : Rat) : (mk' f).ev x = f.foldr (fun a s => a + x * s) 0 := ev_list _ _ _ fun i => cf_trim f i
theorem evL_add (x : Rat) : ∀ (f g : List Rat), (addL f g).foldr (fun a s => a + x * s) 0 = f.foldr (fun a s => a + x * s) 0 + g.foldr (fun a s => a + x * s) 0
  | [], g => by simp only [addL, List.foldr_nil]; grind
  | a :: f, [] => by simp only [addL, List.foldr_nil]; grind
  | a :: f, b :: g => by simp only [addL, List.foldr_cons, evL_add x f g]; grind
theorem evL_sm (x c : Rat) : ∀ (f : List Rat), (smL c f).foldr (fun a s => a + x * s) 0 = c * f.foldr (fun a s => a + x * s) 0
  | [] => by simp only [smL, List.map_nil, List.foldr_nil]; grind
  | a :: f => by
    have := evL_sm x c f
    simp only [smL] at this
    simp only [smL, List.map_cons, List.foldr_cons, this]; grind
theorem evL_mul (x : Rat) : ∀ (f g : List Rat), (mulL f g).foldr (fun a s => a + x * s) 0 = f.foldr (fun a s => a + x * s) 0 * g.foldr (fun a s => a + x * s) 0
  | [], g => by simp only [mulL, List.foldr_nil]; grind
  | a :: f, g => by
    simp only [mulL, evL_add, evL_sm, List.foldr_cons, evL_mul x f g]; grind
theorem ev_add (p q : P) (x : Rat) : (p + q).ev x = p.ev x + q.ev x := by
  show (mk' (addL p.l q.l)).ev x = _
  rw [ev_mk, evL_add]; rfl
theorem ev_mul (p q : P) (x : Rat) : (p * q).ev x = p.ev x * q.ev x := by
  show (mk' (mulL p.l q.l)).ev x = _
  rw [ev_mk, evL_mul]; rfl
theorem ev_C (a x : Rat) : (C a).ev x = a := by
  unfold C
  rw [ev_mk]
  simp only [List.foldr_cons, List.foldr_nil]; grind
theorem ev_zero (x : Rat) : (0 : P).ev x = 0 := rfl
theorem ev_one (x : Rat) : (1 : P).ev x = 1 := ev_C 1 x
theorem ev_neg (p : P) (x : Rat) : (-p).ev x = -p.ev x := by
  have h : (-p + p).ev x = 0 := by rw [show -p + p = (0 : P) by grind]; rfl
  rw [ev_add] at h; grind
theorem ev_sub (p q : P) (x : Rat) : (p - q).ev x = p.ev x - q.ev x := by
  rw [show p - q = p + -q by grind, ev_add, ev_neg]; grind
theorem ev_X (x : Rat) : X.ev x = x := by
  unfold X
  rw [ev_mk]
  simp only [List.foldr_cons, List.foldr_nil]; grind
end P
end Dn
set_option Elab.async false
set_option linter.all false
/-! DnP3: sizes: the sum of sizes of a row's numbers, common denominators. -/
namespace Dn
def ab (x : Rat) : Rat := if x < 0 then -x else x
theorem ab_nn (x : Rat) : 0 ≤ ab x := by unfold ab; grind
theorem ab_zero : ab 0 = 0 := by unfold ab; grind
theorem ab_add (x y : Rat) : ab (x + y) ≤ ab x + ab y := by unfold ab; grind
theorem ab_neg (x : Rat) : ab (-x) = ab x := by unfold ab; grind
theorem ab_sub (x y : Rat) : ab (x - y) ≤ ab x + ab y := by unfold ab; grind
theorem ab_mul (x y : Rat) : ab (x * y) = ab x * ab y := by
  unfold ab
  rcases (show x < 0 ∨ x = 0 ∨ 0 < x by grind) with hx | hx | hx
  · rcases (show y < 0 ∨ y = 0 ∨ 0 < y by grind) with hy | hy | hy
    · have := Rat.mul_pos (show 0 < -x by grind) (show 0 < -y by grind)
      grind
    · subst hy; grind
    · have := Rat.mul_pos (show 0 < -x by grind) hy
      grind
  · subst hx; grind
  · rcases (show y < 0 ∨ y = 0 ∨ 0 < y by grind) with hy | hy | hy
    · have := Rat.mul_pos hx (show 0 < -y by grind)
      grind
    · subst hy; grind
    · have := Rat.mul_pos hx hy
      grind
theorem ab_le {x y : Rat} (h1 : x ≤ y) (h2 : -x ≤ y) : ab x ≤ y := by unfold ab; grind
theorem le_ab (x : Rat) : x ≤ ab x := by unfold ab; grind
theorem ab_pos {x : Rat} (h : x ≠ 0) : 0 < ab x := by unfold ab; grind
theorem ab_of_nn {x : Rat} (h : 0 ≤ x) : ab x = x := by unfold ab; grind
theorem mul_mono {a b c d : Rat} (h1 : a ≤ b) (h2 : c ≤ d) (hc : 0 ≤ c) (hb : 0 ≤ b) : a * c ≤ b * d := by
  have e1 := Rat.mul_le_mul_of_nonneg_right h1 hc
  have e2 := Rat.mul_le_mul_of_nonneg_left h2 hb
  grind
def n1L : List Rat → Rat
  | [] => 0
  | a :: f => ab a + n1L f
theorem n1L_nn : ∀ f, 0 ≤ n1L f
  | [] => by simp [n1L]
  | a :: f => by have := n1L_nn f; have := ab_nn a; unfold n1L; grind
theorem n1L_cf : ∀ f g : List Rat, (∀ i, cf f i = cf g i) → n1L f = n1L g
  | [], [], _ => rfl
  | [], b :: g, h => by
    have e := n1L_cf [] g fun i => h (i + 1)
    have h0 : (0 : Rat) = b := h 0
    simp only [n1L] at e ⊢
    rw [← e, ← h0, ab_zero]; grind
  | a :: f, [], h => by
    have e := n1L_cf f [] fun i => h (i + 1)
    have h0 : a = (0 : Rat) := h 0
    simp only [n1L] at e ⊢
    rw [e, h0, ab_zero]; grind
  | a :: f, b :: g, h => by
    have e := n1L_cf f g fun i => h (i + 1)
    have h0 : a = b := h 0
    simp only [n1L]; rw [e, h0]
theorem n1L_add : ∀ f g, n1L (addL f g) ≤ n1L f + n1L g
  | [], g => by simp only [addL, n1L]; grind
  | a :: f, [] => by simp only [addL, n1L]; grind
  | a :: f, b :: g => by
    have := n1L_add f g
    have := ab_add a b
    simp only [addL, n1L]; grind
theorem n1L_sm (c : Rat) : ∀ f, n1L (smL c f) = ab c * n1L f
  | [] => by simp only [smL, List.map_nil, n1L]; grind
  | a :: f => by
    have := n1L_sm c f
    simp only [smL] at this
    simp only [smL, List.map_cons, n1L, this, ab_mul]; grind
theorem n1L_mul : ∀ f g, n1L (mulL f g) ≤ n1L f * n1L g
  | [], g => by simp only [mulL, n1L]; grind
  | a :: f, g => by
    have h1 := n1L_mul f g
    have h2 := n1L_add (smL a g) (0 :: mulL f g)
    rw [n1L_sm] at h2
    simp only [mulL, n1L, ab_zero] at h2 ⊢
    grind
theorem n1L_get : ∀ (f : List Rat) (i : Nat), ab (cf f i) ≤ n1L f
  | [], i => by simp only [cf_nil, n1L, ab_zero]; grind
  | a :: f, 0 => by have := n1L_nn f; simp only [cf_zero, n1L]; grind
  | a :: f, i + 1 => by have := n1L_get f i; have := ab_nn a; simp only [cf_succ, n1L]; grind
namespace P
def n1 (p : P) : Rat := n1L p.l
theorem n1_nn (p : P) : 0 ≤ p.n1 := n1L_nn _
theorem n1_mk (f : List Rat) : (mk' f).n1 = n1L f := n1L_cf _ _ fun i => cf_trim f i
theorem n1_add (p q : P) : (p + q).n1 ≤ p.n1 + q.n1 := by
  show (mk' (addL p.l q.l)).n1 ≤ _
  rw [n1_mk]; exact n1L_add _ _
theorem n1_mul (p q : P) : (p * q).n1 ≤ p.n1 * q.n1 := by
  show (mk' (mulL p.l q.l)).n1 ≤ _
  rw [n1_mk]; exact n1L_mul _ _
theorem n1_C (a : Rat) : (C a).n1 = ab a := by unfold C; rw [n1_mk]; simp only [n1L]; grind
theorem n1_zero : (0 : P).n1 = 0 := rfl
theorem n1_Cmul (a : Rat) (p : P) : (C a * p).n1 = ab a * p.n1 := by
  have e : C a * p = mk' (smL a p.l) := ext fun i => by rw [C_mul, c_mk, cf_smL]; rfl
  rw [e, n1_mk, n1L_sm]; rfl
theorem n1_neg (p : P) : (-p).n1 = p.n1 := by
  rw [show -p = C (-1) * p by rw [C_neg, C_one]; grind, n1_Cmul]
  have : ab (-1) = 1 := by unfold ab; grind
  rw [this]; grind
theorem n1_sub (p q : P) : (p - q).n1 ≤ p.n1 + q.n1 := by
  rw [show p - q = p + -q by grind]
  have := n1_add p (-q)
  rw [n1_neg] at this; exact this
theorem n1_X (p : P) : (X * p).n1 = p.n1 := by
  have e : X * p = mk' (0 :: p.l) := by rw [mk_cons, mk_l, C_zero]; grind
  rw [e, n1_mk]
  simp only [n1L, ab_zero]
  show 0 + p.n1 = _
  grind
theorem n1_Xk (k : Nat) (p : P) : (X ^ k * p).n1 = p.n1 := by
  induction k with
  | zero => rw [Lean.Grind.Semiring.pow_zero, Lean.Grind.Semiring.one_mul]
  | succ k ih => rw [show X ^ (k + 1) * p = X * (X ^ k * p) by rw [Lean.Grind.Semiring.pow_succ]; grind, n1_X, ih]
theorem n1_c (p : P) (i : Nat) : ab (p.c i) ≤ p.n1 := n1L_get _ _

/-- D is a common denominator -/
def I (D : Rat) (p : P) : Prop := ∀ i, ∃ z : Int, p.c i * D = z
def zI (x : Rat) : Prop := ∃ z : Int, x = z
theorem zI_add {x y : Rat} (h1 : zI x) (h2 : zI y) : zI (x + y) := by
  obtain ⟨a, rfl⟩ := h1; obtain ⟨b, rfl⟩ := h2
  exact ⟨a + b, (Rat.intCast_add a b).symm⟩
theorem zI_mul {x y : Rat} (h1 : zI x) (h2 : zI y) : zI (x * y) := by
  obtain ⟨a, rfl⟩ := h1; obtain ⟨b, rfl⟩ := h2
  exact ⟨a * b, (Rat.intCast_mul a b).symm⟩
theorem zI_neg {x : Rat} (h1 : zI x) : zI (-x) := by
  obtain ⟨a, rfl⟩ := h1
  exact ⟨-a, (Rat.intCast_neg a).symm⟩
theorem zI_sub {x y : Rat} (h1 : zI x) (h2 : zI y) : zI (x - y) := by
  have := zI_add h1 (zI_neg h2)
  rwa [← Rat.sub_eq_add_neg] at this
theorem zI_ab {x : Rat} (h : zI x) : zI (ab x) := by
  unfold ab
  split
  · exact zI_neg h
  · exact h
theorem zI_zero : zI 0 := ⟨0, rfl⟩
theorem zI_nat (n : Nat) : zI (n : Rat) := ⟨n, rfl⟩
theorem zI_one {x : Rat} (h : zI x) (hx : x ≠ 0) : 1 ≤ ab x := by
  obtain ⟨a, rfl⟩ := h
  have ha : a ≠ 0 := fun z => hx (by rw [z]; rfl)
  unfold ab
  rcases Int.lt_or_gt_of_ne ha with h | h
  · have e : ((a : Int) : Rat) < 0 := by rw [← Rat.intCast_zero]; exact Rat.intCast_lt_intCast.mpr h
    rw [if_pos e]
    have : (1 : Rat) ≤ ((-a : Int) : Rat) := by
      rw [← Rat.intCast_one]; exact Rat.intCast_le_intCast.mpr (by omega)
    rw [Rat.intCast_neg] at this; exact this
  · have e : ¬ ((a : Int) : Rat) < 0 := by
      rw [← Rat.intCast_zero, Rat.intCast_lt_intCast]; omega
    rw [if_neg e, ← Rat.intCast_one]
    exact Rat.intCast_le_intCast.mpr (by omega)
theorem zL_mul {D E : Rat} : ∀ (f g : List Rat), (∀ i, zI (cf f i * D)) → (∀ i, zI (cf g i * E)) → ∀ i, zI (cf (mulL f g) i * (D * E))
  | [], g, _, _, i => by rw [show cf (mulL [] g) i * (D * E) = 0 by simp only [mulL, cf_nil]; grind]; exact zI_zero
  | a :: f, g, hf, hg, 0 => by
    rw [cf_mul0, show a * cf g 0 * (D * E) = (a * D) * (cf g 0 * E) by grind]
    exact zI_mul (hf 0) (hg 0)
  | a :: f, g, hf, hg, i + 1 => by
    rw [cf_mulS, show (a * cf g (i + 1) + cf (mulL f g) i) * (D * E) = (a * D) * (cf g (i + 1) * E) + cf (mulL f g) i * (D * E) by grind]
    exact zI_add (zI_mul (hf 0) (hg (i + 1))) (zL_mul f g (fun j => hf (j + 1)) hg i)
theorem I_mul {D E : Rat} {p q : P} (hp : I D p) (hq : I E q) : I (D * E) (p * q) := fun i => by
  rw [c_mul]; exact zL_mul p.l q.l hp hq i
theorem I_add {D : Rat} {p q : P} (hp : I D p) (hq : I D q) : I D (p + q) := fun i => by
  rw [c_add, show (p.c i + q.c i) * D = p.c i * D + q.c i * D by grind]; exact zI_add (hp i) (hq i)
theorem I_sub {D : Rat} {p q : P} (hp : I D p) (hq : I D q) : I D (p - q) := fun i => by
  rw [c_sub, show (p.c i - q.c i) * D = p.c i * D - q.c i * D by grind]; exact zI_sub (hp i) (hq i)
theorem I_sc {D z : Rat} {p : P} (hp : I D p) (hz : zI z) : I (D * z) p := fun i => by
  rw [show p.c i * (D * z) = (p.c i * D) * z by grind]; exact zI_mul (hp i) hz
theorem I_Xk {D : Rat} {p : P} (k : Nat) (hp : I D p) : I D (X ^ k * p) := fun i => by
  by_cases h : i < k
  · rw [Xk_low k p i h, show (0 : Rat) * D = 0 by grind]; exact zI_zero
  · obtain ⟨j, rfl⟩ : ∃ j, i = j + k := ⟨i - k, by omega⟩
    rw [Xk_mul]; exact hp j
theorem I_C {D a : Rat} (h : zI (a * D)) : I D (C a) := fun i => by
  cases i with
  | zero => rw [c_C0]; exact h
  | succ i => rw [c_CS, show (0 : Rat) * D = 0 by grind]; exact zI_zero
theorem I_Cmul {D E a : Rat} {p : P} (h : zI (a * D)) (hp : I E p) : I (D * E) (C a * p) := I_mul (I_C h) hp
theorem I_zero (D : Rat) : I D 0 := fun i => by rw [c_zero, show (0 : Rat) * D = 0 by grind]; exact zI_zero

/-- sized: D is a common denominator, the sum of sizes is at most A over D -/
def H (D A : Rat) (p : P) : Prop := zI D ∧ 1 ≤ D ∧ D ≤ A ∧ I D p ∧ p.n1 * D ≤ A
/-- up to 2 ^ b -/
def Ht (b : Nat) (p : P) : Prop := ∃ D, H D ((2 ^ b : Nat) : Rat) p
theorem H_up {D A B : Rat} {p : P} (h : H D A p) (hb : A ≤ B) : H D B p := ⟨h.1, h.2.1, by have := h.2.2.1; grind, h.2.2.2.1, by have := h.2.2.2.2; grind⟩
theorem pow_mono {a b : Nat} (h : a ≤ b) : ((2 ^ a : Nat) : Rat) ≤ ((2 ^ b : Nat) : Rat) := by
  exact Rat.natCast_le_natCast.mpr (Nat.pow_le_pow_right (by omega) h)
theorem pow_add (a b : Nat) : ((2 ^ (a + b) : Nat) : Rat) = ((2 ^ a : Nat) : Rat) * ((2 ^ b : Nat) : Rat) := by
  rw [Nat.pow_add, Rat.natCast_mul]
theorem Ht_up {a b : Nat} {p : P} (h : Ht a p) (hb : a ≤ b) : Ht b p := by
  obtain ⟨D, h⟩ := h
  exact ⟨D, H_up h (pow_mono hb)⟩
theorem H_mul {D A E B : Rat} {p q : P} (hp : H D A p) (hq : H E B q) : H (D * E) (A * B) (p * q) := by
  obtain ⟨h1, h2, h3, h4, h5⟩ := hp
  obtain ⟨g1, g2, g3, g4, g5⟩ := hq
  refine ⟨zI_mul h1 g1, ?_, mul_mono h3 g3 (by grind) (by grind), I_mul h4 g4, ?_⟩
  · have := mul_mono h2 g2 (by grind) (by grind); grind
  · have e1 := n1_mul p q
    have hn := n1_nn p
    have gn := n1_nn q
    have e2 : (p * q).n1 * (D * E) ≤ p.n1 * q.n1 * (D * E) := Rat.mul_le_mul_of_nonneg_right e1 (Rat.mul_nonneg (by grind) (by grind))
    have e3 : (p.n1 * D) * (q.n1 * E) ≤ A * B := mul_mono h5 g5 (Rat.mul_nonneg gn (by grind)) (by grind)
    grind
theorem H_add {D A E B : Rat} {p q : P} (hp : H D A p) (hq : H E B q) : H (D * E) (2 * (A * B)) (p + q) := by
  obtain ⟨h1, h2, h3, h4, h5⟩ := hp
  obtain ⟨g1, g2, g3, g4, g5⟩ := hq
  have m1 : D * E ≤ A * B := mul_mono h3 g3 (by grind) (by grind)
  have m0 : 1 ≤ D * E := by have := mul_mono h2 g2 (by grind) (by grind); grind
  refine ⟨zI_mul h1 g1, m0, by grind, I_add (I_sc h4 g1) (by have := I_sc g4 h1; rwa [Rat.mul_comm E D] at this), ?_⟩
  · have e1 := n1_add p q
    have hn := n1_nn p
    have gn := n1_nn q
    have e2 : (p + q).n1 * (D * E) ≤ (p.n1 + q.n1) * (D * E) := Rat.mul_le_mul_of_nonneg_right e1 (by grind)
    have e3 : (p.n1 * D) * E ≤ A * B := mul_mono h5 g3 (by grind) (by grind)
    have e4 : D * (q.n1 * E) ≤ A * B := mul_mono h3 g5 (Rat.mul_nonneg gn (by grind)) (by grind)
    grind
theorem H_neg {D A : Rat} {p : P} (hp : H D A p) : H D A (-p) := by
  obtain ⟨h1, h2, h3, h4, h5⟩ := hp
  refine ⟨h1, h2, h3, fun i => ?_, by rw [n1_neg]; exact h5⟩
  rw [c_neg, show -p.c i * D = -(p.c i * D) by grind]
  exact zI_neg (h4 i)
theorem Ht_mul {a b : Nat} {p q : P} (hp : Ht a p) (hq : Ht b q) : Ht (a + b) (p * q) := by
  obtain ⟨D, hp⟩ := hp
  obtain ⟨E, hq⟩ := hq
  exact ⟨D * E, by rw [pow_add]; exact H_mul hp hq⟩
theorem Ht_add {a b : Nat} {p q : P} (hp : Ht a p) (hq : Ht b q) : Ht (a + b + 1) (p + q) := by
  obtain ⟨D, hp⟩ := hp
  obtain ⟨E, hq⟩ := hq
  refine ⟨D * E, ?_⟩
  have e : ((2 ^ (a + b + 1) : Nat) : Rat) = 2 * (((2 ^ a : Nat) : Rat) * ((2 ^ b : Nat) : Rat)) := by
    rw [pow_add, pow_add]
    show _ * (2 : Rat) = _
    grind
  rw [e]
  exact H_add hp hq
theorem Ht_neg {a : Nat} {p : P} (hp : Ht a p) : Ht a (-p) := by
  obtain ⟨D, hp⟩ := hp
  exact ⟨D, H_neg hp⟩
theorem Ht_sub {a b : Nat} {p q : P} (hp : Ht a p) (hq : Ht b q) : Ht (a + b + 1) (p - q) := by
  rw [show p - q = p + -q by grind]
  exact Ht_add hp (Ht_neg hq)
theorem Ht_zero (b : Nat) : Ht b 0 := ⟨1, ⟨1, rfl⟩, by grind, by
  have := pow_mono (Nat.zero_le b)
  exact this, I_zero 1, by
  have := pow_mono (Nat.zero_le b)
  rw [n1_zero]
  have e : (0 : Rat) * 1 = 0 := by grind
  rw [e]
  have e2 : ((2 ^ 0 : Nat) : Rat) = 1 := rfl
  grind⟩
/-- each number of a sized row -/
theorem num_le {D A : Rat} {p : P} (h : H D A p) (i : Nat) : ((p.c i).num.natAbs : Rat) ≤ A ∧ ((p.c i).den : Rat) ≤ A := by
  obtain ⟨hD, h2, h3, h4, h5⟩ := h
  obtain ⟨d, rfl⟩ := hD
  obtain ⟨z, hz⟩ := h4 i
  have hd : (1 : Int) ≤ d := by rw [← Rat.intCast_one] at h2; exact Rat.intCast_le_intCast.mp h2
  have hdn : 0 < d.toNat := by omega
  have ed : ((d : Int) : Rat) = ((d.toNat : Nat) : Rat) := by
    show _ = (((d.toNat : Nat) : Int) : Rat)
    rw [Int.toNat_of_nonneg (by omega)]
  -- p.c i = z / d
  have e : p.c i = Rat.divInt z d := by
    rw [Rat.divInt_eq_div, ← hz]
    have : ((d : Int) : Rat) ≠ 0 := by grind
    rw [Rat.div_def, Rat.mul_assoc, Rat.mul_inv_cancel _ this, Rat.mul_one]
  have hden : (p.c i).den ≤ d.toNat := by
    rw [e, Rat.den_divInt, if_neg (by omega)]
    have : d.natAbs / Int.gcd d z ≤ d.natAbs := Nat.div_le_self _ _
    have e2 : d.natAbs = d.toNat := by omega
    omega
  have hnum : (p.c i).num.natAbs ≤ z.natAbs := by
    rw [e, Rat.num_divInt, Int.sign_eq_one_of_pos (by omega), Int.one_mul, Int.natAbs_ediv_of_dvd]
    · exact Nat.div_le_self _ _
    · exact Int.gcd_dvd_right ..
  have hza : (z.natAbs : Rat) ≤ A := by
    have e3 : (z.natAbs : Rat) = ab (p.c i * d) := by
      rw [hz]
      unfold ab
      show (((z.natAbs : Nat) : Int) : Rat) = _
      by_cases hz0 : z < 0
      · rw [if_pos (by rw [← Rat.intCast_zero]; exact Rat.intCast_lt_intCast.mpr hz0), ← Rat.intCast_neg]
        congr 1; omega
      · rw [if_neg (by rw [← Rat.intCast_zero, Rat.intCast_lt_intCast]; exact hz0)]
        congr 1; omega
    rw [e3, ab_mul]
    have e4 := n1_c p i
    have e5 : ab (d : Rat) = d := by unfold ab; grind
    rw [e5]
    have := Rat.mul_le_mul_of_nonneg_right e4 (show (0 : Rat) ≤ d by grind)
    grind
  constructor
  · have : ((p.c i).num.natAbs : Rat) ≤ (z.natAbs : Rat) := Rat.natCast_le_natCast.mpr hnum
    grind
  · have : ((p.c i).den : Rat) ≤ (d.toNat : Rat) := Rat.natCast_le_natCast.mpr hden
    grind
theorem Ht_num {b : Nat} {p : P} (h : Ht b p) (i : Nat) : (p.c i).num.natAbs ≤ 2 ^ b ∧ (p.c i).den ≤ 2 ^ b := by
  obtain ⟨D, h⟩ := h
  have := num_le h i
  exact ⟨Rat.natCast_le_natCast.mp this.1, Rat.natCast_le_natCast.mp this.2⟩
end P
end Dn
set_option Elab.async false
set_option linter.all false
/-! DnP4: division with rest, with sizes. -/
namespace Dn
namespace P
theorem pw_succ (B : Rat) (k : Nat) : B ^ (k + 1) = B ^ k * B := Rat.pow_succ B k
theorem pw_zero (B : Rat) : B ^ 0 = 1 := Rat.pow_zero B
theorem pw_one {B : Rat} (h : 1 ≤ B) : ∀ k : Nat, 1 ≤ B ^ k
  | 0 => by rw [pw_zero]; grind
  | k + 1 => by
    have := mul_mono (pw_one h k) h (by grind) (by have := pw_one h k; grind)
    rw [pw_succ]; grind
theorem pw_le {A B : Rat} (h : 1 ≤ A) (hb : A ≤ B) : ∀ k : Nat, A ^ k ≤ B ^ k
  | 0 => by rw [pw_zero, pw_zero]; grind
  | k + 1 => by
    rw [pw_succ, pw_succ]
    have := pw_one h k
    have := pw_le h hb k
    exact mul_mono this hb (by grind) (by grind)
/-- one step of a division: D * L is a common denominator behind it -/
theorem step_H {D A E B a b : Rat} {f g : P} (k : Nat) (hf : H D A f) (hg : H E B g) (ha : zI (a * D)) (ha2 : ab a * D ≤ A) (hb : zI (b * E)) (hb0 : b ≠ 0) (hb2 : ab b * E ≤ B) :
    H (D * ab (b * E)) (2 * (A * B)) (f - C (a / b) * (X ^ k * g)) := by
  obtain ⟨h1, h2, h3, h4, h5⟩ := hf
  obtain ⟨g1, g2, g3, g4, g5⟩ := hg
  have hE0 : E ≠ 0 := by grind
  have hbE : b * E ≠ 0 := by grind
  have hL1 : 1 ≤ ab (b * E) := zI_one hb hbE
  have hLB : ab (b * E) ≤ B := by rw [ab_mul, ab_of_nn (show 0 ≤ E by grind)]; exact hb2
  have m1 : D * ab (b * E) ≤ A * B := mul_mono h3 hLB (by grind) (by grind)
  have m0 : 1 ≤ D * ab (b * E) := by have := mul_mono h2 hL1 (by grind) (by grind); grind
  have hAB : 1 ≤ A * B := by grind
  refine ⟨zI_mul h1 (zI_ab hb), m0, by grind, fun i => ?_, ?_⟩
  · rw [c_sub, C_mul]
    have t1 : zI (f.c i * D * ab (b * E)) := zI_mul (h4 i) (zI_ab hb)
    have t2 : zI (a * D * ((X ^ k * g).c i * E)) := zI_mul ha (I_Xk k g4 i)
    have t3 : a / b * (X ^ k * g).c i * (D * ab (b * E)) = a * D * ((X ^ k * g).c i * E) ∨ a / b * (X ^ k * g).c i * (D * ab (b * E)) = -(a * D * ((X ^ k * g).c i * E)) := by
      unfold ab
      split
      · right; grind
      · left; grind
    rw [show (f.c i - a / b * (X ^ k * g).c i) * (D * ab (b * E)) = f.c i * D * ab (b * E) - a / b * (X ^ k * g).c i * (D * ab (b * E)) by grind]
    rcases t3 with t3 | t3
    · rw [t3]; exact zI_sub t1 t2
    · rw [t3]; exact zI_sub t1 (zI_neg t2)
  · have e1 := n1_sub f (C (a / b) * (X ^ k * g))
    rw [n1_Cmul, n1_Xk] at e1
    have e2 : ab (a / b) * (D * ab (b * E)) = ab a * D * E := by
      have : ab a = ab (a / b) * ab b := by rw [← ab_mul]; congr 1; grind
      rw [this, ab_mul, ab_of_nn (show 0 ≤ E by grind)]; grind
    have e3 := Rat.mul_le_mul_of_nonneg_right e1 (show 0 ≤ D * ab (b * E) by grind)
    have e4 : f.n1 * D * ab (b * E) ≤ A * B := mul_mono h5 hLB (by grind) (by grind)
    have e5 : (ab a * D) * (g.n1 * E) ≤ A * B := mul_mono ha2 g5 (Rat.mul_nonneg (n1_nn g) (by grind)) (by grind)
    have e6 : ab (a / b) * g.n1 * (D * ab (b * E)) = (ab a * D) * (g.n1 * E) := by
      rw [show ab (a / b) * g.n1 * (D * ab (b * E)) = (ab (a / b) * (D * ab (b * E))) * g.n1 by grind, e2]; grind
    grind
theorem H_lead {D A : Rat} {p : P} (h : H D A p) (i : Nat) : zI (p.c i * D) ∧ ab (p.c i) * D ≤ A := by
  refine ⟨h.2.2.2.1 i, ?_⟩
  have := Rat.mul_le_mul_of_nonneg_right (n1_c p i) (show 0 ≤ D by have := h.2.1; grind)
  have := h.2.2.2.2
  grind
theorem len_step {f g : P} {k : Nat} (hg : g ≠ 0) (hf : f.len = g.len + k) : (f - C (f.lead / g.lead) * (X ^ k * g)).len < g.len + k := by
  have h1 := len_pos hg
  have hl := lead_ne hg
  have : (f - C (f.lead / g.lead) * (X ^ k * g)).len ≤ g.len + k - 1 := len_le fun i hi => by
    rw [c_sub, C_mul]
    by_cases e : i = g.len + k - 1
    · subst e
      have e1 : (X ^ k * g).c (g.len + k - 1) = g.lead := by
        rw [show g.len + k - 1 = (g.len - 1) + k by omega, Xk_mul]; rfl
      have e2 : f.c (g.len + k - 1) = f.lead := by
        unfold lead; rw [hf]
      rw [e1, e2]; grind
    · rw [c_ge (p := f) (by omega)]
      have : (X ^ k * g).c i = 0 := by
        rw [show i = (i - k) + k by omega, Xk_mul]
        exact c_ge (by omega)
      rw [this]; grind
  omega
theorem div_H {g e1 : P} (hg : g ≠ 0) {E B : Rat} (hG : H E B g) (hE : H E B e1) : ∀ (k : Nat) (f e0 : P) (D A : Rat), H D A f → H D A e0 → f.len < g.len + k →
    ∃ q r D' L, f = q * g + r ∧ r.len < g.len ∧ zI L ∧ 1 ≤ L ∧ L ≤ B ^ k ∧ D' = D * L ∧ H D' (A * (2 * B) ^ k) r ∧ H D' (A * (2 * B) ^ k) (e0 - q * e1) ∧ H D' (A * (4 * B) ^ k) q
  | 0, f, e0, D, A, hf, he, hl => ⟨0, f, D, 1, by grind, by omega, ⟨1, rfl⟩, by grind, by rw [pw_zero]; grind, by grind, by
      rw [pw_zero, Rat.mul_one]; exact hf, by
      rw [pw_zero, Rat.mul_one, show e0 - 0 * e1 = e0 by grind]; exact he, by
      rw [pw_zero, Rat.mul_one]
      exact ⟨hf.1, hf.2.1, hf.2.2.1, I_zero D, by rw [n1_zero]; have := hf.2.1; have := hf.2.2.1; grind⟩⟩
  | k + 1, f, e0, D, A, hf, he, hl => by
    have hB : 1 ≤ B := by have := hG.2.1; have := hG.2.2.1; grind
    have hA : 1 ≤ A := by have := hf.2.1; have := hf.2.2.1; grind
    by_cases hk : f.len < g.len + k
    · obtain ⟨q, r, D', L, a1, a2, a3, a4, a5, a6, a7, a8, a9⟩ := div_H hg hG hE k f e0 D A hf he hk
      have p2 := pw_one (show 1 ≤ 2 * B by grind) k
      have p4 := pw_one (show 1 ≤ 4 * B by grind) k
      have p1 := pw_one hB k
      have u2 : A * (2 * B) ^ k ≤ A * (2 * B) ^ (k + 1) := by
        rw [pw_succ]
        exact Rat.mul_le_mul_of_nonneg_left (by have := mul_mono (Rat.le_refl (a := (2 * B) ^ k)) (show 1 ≤ 2 * B by grind) (by grind) (by grind); grind) (by grind)
      have u4 : A * (4 * B) ^ k ≤ A * (4 * B) ^ (k + 1) := by
        rw [pw_succ]
        exact Rat.mul_le_mul_of_nonneg_left (by have := mul_mono (Rat.le_refl (a := (4 * B) ^ k)) (show 1 ≤ 4 * B by grind) (by grind) (by grind); grind) (by grind)
      refine ⟨q, r, D', L, a1, a2, a3, a4, ?_, a6, H_up a7 u2, H_up a8 u2, H_up a9 u4⟩
      rw [pw_succ]
      have := mul_mono (Rat.le_refl (a := B ^ k)) hB (by grind) (by grind)
      grind
    · have hfl : f.len = g.len + k := by omega
      have hgl := lead_ne hg
      obtain ⟨la1, la2⟩ : zI (f.lead * D) ∧ ab f.lead * D ≤ A := H_lead hf (f.len - 1)
      obtain ⟨lb1, lb2⟩ : zI (g.lead * E) ∧ ab g.lead * E ≤ B := H_lead hG (g.len - 1)
      have s1 := step_H k hf hG la1 la2 lb1 hgl lb2
      have s2 := step_H k he hE la1 la2 lb1 hgl lb2
      have hl2 := len_step (f := f) hg hfl
      obtain ⟨q, r, D', L, a1, a2, a3, a4, a5, a6, a7, a8, a9⟩ := div_H hg hG hE k _ _ _ _ s1 s2 hl2
      have hbE : g.lead * E ≠ 0 := by have := hG.2.1; grind
      have hL1 : 1 ≤ ab (g.lead * E) := zI_one lb1 hbE
      have hE1 := hG.2.1
      have hD1 := hf.2.1
      have hLB : ab (g.lead * E) ≤ B := by rw [ab_mul, ab_of_nn (show 0 ≤ E by grind)]; exact lb2
      have e2 : 2 * (A * B) * (2 * B) ^ k = A * (2 * B) ^ (k + 1) := by rw [pw_succ]; grind
      refine ⟨q + C (f.lead / g.lead) * X ^ k, r, D', ab (g.lead * E) * L, by grind, a2, zI_mul (zI_ab lb1) a3, ?_, ?_, by rw [a6, Rat.mul_assoc], by rw [← e2]; exact a7, ?_, ?_⟩
      · have := mul_mono hL1 a4 (by grind) (by grind); grind
      · rw [pw_succ]
        have := mul_mono hLB a5 (by grind) (by grind); grind
      · rw [← e2]
        have : e0 - C (f.lead / g.lead) * (X ^ k * e1) - q * e1 = e0 - (q + C (f.lead / g.lead) * X ^ k) * e1 := by grind
        rw [← this]; exact a8
      · obtain ⟨b1, b2, b3, b4, b5⟩ := a9
        have p4 := pw_one (show 1 ≤ 4 * B by grind) k
        have p1 := pw_one hB k
        have p14 := pw_le hB (show B ≤ 4 * B by grind) k
        have e4 : A * (4 * B) ^ (k + 1) = 4 * (A * B * (4 * B) ^ k) := by rw [pw_succ]; grind
        have hAB : 1 ≤ A * B := by have := mul_mono hA hB (by grind) (by grind); grind
        have hABk : 0 ≤ A * B * (4 * B) ^ k := Rat.mul_nonneg (by grind) (by grind)
        have hcl : ab (f.lead / g.lead) * (D * ab (g.lead * E)) = ab f.lead * D * E := by
          have : ab f.lead = ab (f.lead / g.lead) * ab g.lead := by rw [← ab_mul]; congr 1; grind
          rw [this, ab_mul, ab_of_nn (show 0 ≤ E by grind)]; grind
        refine ⟨b1, b2, by rw [e4]; grind, I_add b4 ?_, ?_⟩
        · rw [a6, show C (f.lead / g.lead) * X ^ k = X ^ k * C (f.lead / g.lead) by grind]
          refine I_sc (I_Xk k (I_C ?_)) a3
          have t3 : f.lead / g.lead * (D * ab (g.lead * E)) = f.lead * D * E ∨ f.lead / g.lead * (D * ab (g.lead * E)) = -(f.lead * D * E) := by
            unfold ab
            split
            · right; grind
            · left; grind
          show zI (f.lead / g.lead * (D * ab (g.lead * E)))
          rcases t3 with t3 | t3
          · rw [t3]; exact zI_mul la1 hG.1
          · rw [t3]; exact zI_neg (zI_mul la1 hG.1)
        · have e1 := n1_add q (C (f.lead / g.lead) * X ^ k)
          rw [show C (f.lead / g.lead) * X ^ k = X ^ k * C (f.lead / g.lead) by grind, n1_Xk, n1_C] at e1
          have e3 := Rat.mul_le_mul_of_nonneg_right e1 (show 0 ≤ D' by grind)
          have e5 : ab (f.lead / g.lead) * D' ≤ A * B * (4 * B) ^ k := by
            rw [a6]
            show ab (f.lead / g.lead) * (D * ab (g.lead * E) * L) ≤ _
            rw [show ab (f.lead / g.lead) * (D * ab (g.lead * E) * L) = (ab (f.lead / g.lead) * (D * ab (g.lead * E))) * L by grind, hcl]
            have m1 : ab f.lead * D * E ≤ A * B := mul_mono la2 hG.2.2.1 (by grind) (by grind)
            have m2 : L ≤ (4 * B) ^ k := by grind
            exact mul_mono m1 m2 (by grind) (by grind)
          rw [show C (f.lead / g.lead) * X ^ k = X ^ k * C (f.lead / g.lead) by grind]
          rw [e4]
          grind
theorem div_unique {f g q r q' r' : P} (h1 : f = q * g + r) (h2 : r.len < g.len) (h1' : f = q' * g + r') (h2' : r'.len < g.len) : q = q' ∧ r = r' := by
  have hg : g ≠ 0 := by intro z; rw [z, len_zero] at h2; omega
  have e : (q - q') * g = r' - r := by grind
  have hq : q - q' = 0 := by
    apply Classical.byContradiction
    intro hq
    have h3 := len_mul hq hg
    have h4 := len_sub r' r
    have h5 := len_pos hq
    rw [e] at h3
    omega
  have hq2 : q = q' := by grind
  subst hq2
  exact ⟨rfl, by grind⟩
end P
end Dn
set_option Elab.async false
set_option linter.all false
/-! DnP5: Euclid's way, with sizes; the common divisor; base helms. -/
namespace Dn
namespace P
theorem div_ex {g : P} (hg : g ≠ 0) : ∀ (k : Nat) (f : P), f.len < g.len + k → ∃ q r, f = q * g + r ∧ r.len < g.len
  | 0, f, h => ⟨0, f, by grind, by omega⟩
  | k + 1, f, h => by
    by_cases hk : f.len < g.len + k
    · exact div_ex hg k f hk
    · obtain ⟨q, r, h1, h2⟩ := div_ex hg k _ (len_step (f := f) (k := k) hg (by omega))
      exact ⟨q + C (f.lead / g.lead) * X ^ k, r, by grind, h2⟩
theorem div_ex' {g : P} (hg : g ≠ 0) (f : P) : ∃ q r, f = q * g + r ∧ r.len < g.len := div_ex hg (f.len + 1) f (by omega)
/-- both sized by one denominator -/
def HtP (b : Nat) (p q : P) : Prop := ∃ D, H D ((2 ^ b : Nat) : Rat) p ∧ H D ((2 ^ b : Nat) : Rat) q
theorem HtP_up {a b : Nat} {p q : P} (h : HtP a p q) (hb : a ≤ b) : HtP b p q := by
  obtain ⟨D, h1, h2⟩ := h
  exact ⟨D, H_up h1 (pow_mono hb), H_up h2 (pow_mono hb)⟩
theorem HtP.l {a : Nat} {p q : P} (h : HtP a p q) : Ht a p := by obtain ⟨D, h1, h2⟩ := h; exact ⟨D, h1⟩
theorem HtP.r {a : Nat} {p q : P} (h : HtP a p q) : Ht a q := by obtain ⟨D, h1, h2⟩ := h; exact ⟨D, h2⟩
theorem HtP_of {a b : Nat} {p q : P} (hp : Ht a p) (hq : Ht b q) : HtP (a + b) p q := by
  obtain ⟨D, hp⟩ := hp
  obtain ⟨E, hq⟩ := hq
  have h1 : ∀ {D A E B : Rat} {p q : P}, H D A p → H E B q → H (D * E) (A * B) p := fun {D A E B p q} hp hq => by
    obtain ⟨h1, h2, h3, h4, h5⟩ := hp
    obtain ⟨g1, g2, g3, g4, g5⟩ := hq
    refine ⟨zI_mul h1 g1, ?_, mul_mono h3 g3 (by grind) (by grind), I_sc h4 g1, ?_⟩
    · have := mul_mono h2 g2 (by grind) (by grind); grind
    · have := mul_mono h5 g3 (by grind) (by grind); grind
  refine ⟨D * E, ?_, ?_⟩
  · rw [pow_add]; exact h1 hp hq
  · rw [pow_add, Rat.mul_comm D E, Rat.mul_comm ((2 ^ a : Nat) : Rat)]; exact h1 hq hp
theorem HtP_self {a : Nat} {p : P} (hp : Ht a p) : HtP a p 0 := by
  obtain ⟨D, h1, h2, h3, h4, h5⟩ := hp
  exact ⟨D, ⟨h1, h2, h3, h4, h5⟩, h1, h2, h3, I_zero D, by rw [n1_zero]; grind⟩
theorem HtP_one {a : Nat} {p : P} (hp : Ht a p) : HtP a p 1 := by
  obtain ⟨D, h1, h2, h3, h4, h5⟩ := hp
  refine ⟨D, ⟨h1, h2, h3, h4, h5⟩, h1, h2, h3, ?_, ?_⟩
  · rw [← C_one]; exact I_C (by rw [Rat.one_mul]; exact h1)
  · rw [← C_one, n1_C, ab_of_nn (by grind)]; grind
theorem rpow (b k : Nat) : ((2 ^ b : Nat) : Rat) ^ k = ((2 ^ (k * b) : Nat) : Rat) := by
  induction k with
  | zero => rw [pw_zero, Nat.zero_mul]; rfl
  | succ k ih => rw [pw_succ, ih, ← pow_add]; congr 2; rw [Nat.succ_mul]
theorem HtP_div {a b k : Nat} {f g e0 e1 : P} (hg : g ≠ 0) (h1 : HtP a f e0) (h2 : HtP b g e1) (hl : f.len < g.len + k) :
    ∃ q r, f = q * g + r ∧ r.len < g.len ∧ HtP (a + k * (b + 1)) r (e0 - q * e1) ∧ Ht (a + k * (b + 2)) q := by
  obtain ⟨D, d1, d2⟩ := h1
  obtain ⟨E, d3, d4⟩ := h2
  obtain ⟨q, r, D', L, a1, a2, _, _, _, _, a7, a8, a9⟩ := div_H hg d3 d4 k f e0 D _ d1 d2 hl
  have e2 : (2 : Rat) * ((2 ^ b : Nat) : Rat) = ((2 ^ (b + 1) : Nat) : Rat) := by
    rw [pow_add]; show _ = _ * (2 : Rat); grind
  have e4 : (4 : Rat) * ((2 ^ b : Nat) : Rat) = ((2 ^ (b + 2) : Nat) : Rat) := by
    rw [pow_add]; show _ = _ * (4 : Rat); grind
  rw [e2, rpow, ← pow_add] at a7 a8
  rw [e4, rpow, ← pow_add] at a9
  exact ⟨q, r, a1, a2, ⟨D', a7, a8⟩, ⟨D', a9⟩⟩
theorem Ht_div {a b k : Nat} {f g q r : P} (h1 : Ht a f) (h2 : Ht b g) (hl : f.len < g.len + k) (e : f = q * g + r) (hr : r.len < g.len) : Ht (a + k * (b + 1)) r ∧ Ht (a + k * (b + 2)) q := by
  have hg : g ≠ 0 := by intro z; rw [z, len_zero] at hr; omega
  obtain ⟨q', r', a1, a2, a3, a4⟩ := HtP_div hg (HtP_self h1) (HtP_self h2) hl
  obtain ⟨u1, u2⟩ := div_unique e hr a1 a2
  subst u1 u2
  exact ⟨a3.l, a4⟩

/-- the first number that is not 0 -/
def lowL : List Rat → Rat
  | [] => 0
  | a :: f => if a = 0 then lowL f else a
def low (p : P) : Rat := lowL p.l
theorem lowL_cf : ∀ f g : List Rat, (∀ i, cf f i = cf g i) → lowL f = lowL g
  | [], [], _ => rfl
  | [], b :: g, h => by
    have e := lowL_cf [] g fun i => h (i + 1)
    have h0 : (0 : Rat) = b := h 0
    simp only [lowL] at e ⊢
    rw [← e, if_pos h0.symm]
  | a :: f, [], h => by
    have e := lowL_cf f [] fun i => h (i + 1)
    have h0 : a = (0 : Rat) := h 0
    simp only [lowL] at e ⊢
    rw [e, if_pos h0]
  | a :: f, b :: g, h => by
    have e := lowL_cf f g fun i => h (i + 1)
    have h0 : a = b := h 0
    simp only [lowL]; rw [e, h0]
theorem low_mk (f : List Rat) : (mk' f).low = lowL f := lowL_cf _ _ fun i => cf_trim f i
theorem lowL_sm {c : Rat} (hc : c ≠ 0) : ∀ f : List Rat, lowL (smL c f) = c * lowL f
  | [] => by simp only [smL, List.map_nil, lowL]; grind
  | a :: f => by
    have ih := lowL_sm hc f
    simp only [smL] at ih
    simp only [smL, List.map_cons, lowL, ih]
    by_cases h : a = 0
    · rw [if_pos h, if_pos (by grind)]
    · rw [if_neg h, if_neg (by grind)]
theorem low_C {c : Rat} (hc : c ≠ 0) (p : P) : (C c * p).low = c * p.low := by
  have e : C c * p = mk' (smL c p.l) := ext fun i => by rw [C_mul, c_mk, cf_smL]; rfl
  rw [e, low_mk, lowL_sm hc]; rfl
theorem low_ne {p : P} (h : p ≠ 0) : p.low ≠ 0 := by
  intro z
  apply h
  have : ∀ f : List Rat, lowL f = 0 → ∀ i, cf f i = 0 := by
    intro f
    induction f with
    | nil => intro _ i; rfl
    | cons a f ih =>
      intro z i
      simp only [lowL] at z
      by_cases ha : a = 0
      · rw [if_pos ha] at z
        cases i with
        | zero => exact ha
        | succ i => exact ih z i
      · rw [if_neg ha] at z; exact absurd z ha
  exact ext fun i => by rw [c_zero]; exact this _ z i
theorem low_c0 {p : P} (h : p.c 0 ≠ 0) : p.low = p.c 0 := by
  unfold low c at *
  cases e : p.l with
  | nil => rw [e] at h; exact absurd rfl h
  | cons a f =>
    rw [e] at h
    simp only [lowL, cf_zero] at h ⊢
    rw [if_neg h]
/-- the common divisor of p and q -/
def IsG (g p q : P) : Prop := (∃ e f, g = e * p + f * q) ∧ (∃ u, p = u * g) ∧ (∃ v, q = v * g) ∧ g.low = 1
theorem IsG_unique {g g' p q : P} (h : IsG g p q) (h' : IsG g' p q) : g = g' := by
  obtain ⟨⟨e, f, h1⟩, ⟨u, h2⟩, ⟨v, h3⟩, h4⟩ := h
  obtain ⟨⟨e', f', h1'⟩, ⟨u', h2'⟩, ⟨v', h3'⟩, h4'⟩ := h'
  have hg : g ≠ 0 := by intro z; rw [z] at h4; exact absurd h4 (by unfold low; decide)
  have s1 : g = (e * u' + f * v') * g' := by grind
  have s2 : g' = (e' * u + f' * v) * g := by grind
  generalize e * u' + f * v' = s at s1
  generalize e' * u + f' * v = t at s2
  have st : g * 1 = g * (s * t) := by grind
  have st1 : (1 : P) = s * t := cancel hg st
  have hs : s ≠ 0 := by intro z; rw [z] at s1; apply hg; grind
  have ht : t ≠ 0 := by
    intro z
    have : (1 : P) = 0 := by grind
    have : (1 : P).c 0 = (0 : P).c 0 := by rw [this]
    rw [c_zero] at this
    have e1 : (1 : P).c 0 = 1 := c_C0 1
    rw [e1] at this
    exact absurd this (by decide)
  have hl := (len_mul hs ht).1
  rw [← st1] at hl
  have l1 : (1 : P).len ≤ 1 := len_C 1
  have ls := len_pos hs
  have lt := len_pos ht
  have es : s = C (s.c 0) := ext fun i => by
    cases i with
    | zero => rw [c_C0]
    | succ i => rw [c_CS, c_ge (by omega)]
  have hs0 : s.c 0 ≠ 0 := by
    intro z
    apply hs
    rw [es, z]; rfl
  rw [es] at s1
  have e5 := low_C hs0 g'
  rw [← s1, h4, h4'] at e5
  have e6 : s.c 0 = 1 := by grind
  rw [s1, e6, C_one]; grind

/-- what an addition needs -/
def Ad (p q : P) : Prop := ∃ a, Ht a p ∧ Ht a q ∧ a ≤ 50000000 ∧ p.len ≤ 2000 ∧ q.len ≤ 2000
/-- what a product needs -/
def Ml (p q : P) : Prop := ∃ a b, Ht a p ∧ Ht b q ∧ a + b ≤ 50000000 ∧ p.len ≤ 2000 ∧ q.len ≤ 2000
/-- what a division needs -/
def Pt (p q : P) : Prop := q ≠ 0 ∧ ∃ a b k, Ht a p ∧ Ht b q ∧ p.len < q.len + k ∧ a + k * (b + 2) ≤ 50000000 ∧ p.len ≤ 2000 ∧ q.len ≤ 2000
/-- Euclid's way from one, two (with e, f beside) to the last one (with e') -/
inductive Eu : P → P → P → P → P → P → Nat → Prop
  | done {one e f} : Eu one 0 e f one e 0
  | step {one two e f q r one' e' t} : two ≠ 0 → Pt one two → one = q * two + r → r.len < two.len → Ml q f → Ad e (q * f) → Eu two r f (e - q * f) one' e' t → Eu one two e f one' e' (t + 1)
theorem Eu.ideal {one two e f one' e' : P} {t : Nat} (h : Eu one two e f one' e' t) : (∃ u v, one' = u * one + v * two) ∧ (∃ u, one = u * one') ∧ (∃ v, two = v * one') := by
  induction h with
  | done => exact ⟨⟨1, 0, by grind⟩, ⟨1, by grind⟩, ⟨0, by grind⟩⟩
  | @step one two e f q r one' e' t _ _ h1 _ _ _ _ ih =>
    obtain ⟨⟨u, v, h2⟩, ⟨u2, h3⟩, ⟨v2, h4⟩⟩ := ih
    exact ⟨⟨v, u - v * q, by rw [h2, h1]; grind⟩, ⟨q * u2 + v2, by rw [h1]; grind⟩, ⟨u2, h3⟩⟩
theorem Eu.cof {one two e f one' e' : P} {t : Nat} (h : Eu one two e f one' e' t) (n m : P) (h1 : ∃ a, one = e * n + a * m) (h2 : ∃ b, two = f * n + b * m) : ∃ c, one' = e' * n + c * m := by
  induction h with
  | done => exact h1
  | @step one two e f q r one' e' t _ _ h3 _ _ _ _ ih =>
    obtain ⟨a, h1⟩ := h1
    obtain ⟨b, h2'⟩ := h2
    refine ih ⟨b, h2'⟩ ⟨a - q * b, ?_⟩
    rw [show r = one - q * two by grind, h1, h2']; grind
theorem Eu.ne {one two e f one' e' : P} {t : Nat} (h : Eu one two e f one' e' t) (h0 : one ≠ 0) : one' ≠ 0 := by
  induction h with
  | done => exact h0
  | step h1 _ _ _ _ _ _ ih => exact ih h1
theorem three (d : Nat) (h : 1 ≤ d) : d + 2 ≤ 3 ^ d := by
  induction d with
  | zero => omega
  | succ d ih =>
    by_cases hd : d = 0
    · subst hd; decide
    · have := ih (by omega)
      rw [Nat.pow_succ]; omega
theorem Ht_add' {a : Nat} {p q : P} (h : HtP a p q) : Ht (a + 1) (p + q) ∧ Ht (a + 1) (p - q) := by
  obtain ⟨D, h1, h2⟩ := h
  have e : ((2 ^ (a + 1) : Nat) : Rat) = 2 * ((2 ^ a : Nat) : Rat) := by rw [pow_add]; show _ * (2 : Rat) = _; grind
  have k1 : ∀ {D A : Rat} {p q : P}, H D A p → H D A q → H D (2 * A) (p + q) := fun {D A p q} hp hq => by
    obtain ⟨h1, h2, h3, h4, h5⟩ := hp
    obtain ⟨g1, g2, g3, g4, g5⟩ := hq
    refine ⟨h1, h2, by grind, I_add h4 g4, ?_⟩
    have := Rat.mul_le_mul_of_nonneg_right (n1_add p q) (show 0 ≤ D by grind)
    grind
  refine ⟨⟨D, by rw [e]; exact k1 h1 h2⟩, ⟨D, ?_⟩⟩
  rw [e, show p - q = p + -q by grind]
  exact k1 h1 (H_neg h2)
theorem eu_ex : ∀ (L : Nat) (one two e f : P) (M : Nat), HtP M one e → HtP M two f → two.len < one.len → one.len ≤ L → L ≤ 900 → e.len ≤ 1000 → f.len ≤ 1000 → e.len + one.len ≤ 1000 → f.len + one.len ≤ 1000 → 3 ^ L * (M + 2) ≤ 12000000 →
    ∃ one' e' t, Eu one two e f one' e' t ∧ t ≤ two.len ∧ HtP (3 ^ L * (M + 2)) one' e' ∧ e'.len ≤ 1000 ∧ one'.len ≤ one.len
  | 0, one, two, e, f, M, h1, h2, hl, hL, _, _, _, _, _, hM => by omega
  | L + 1, one, two, e, f, M, h1, h2, hl, hL, hL9, he, hf, hel, hfl, hM => by
    by_cases h0 : two = 0
    · subst h0
      refine ⟨one, e, 0, .done, by omega, HtP_up h1 ?_, he, by omega⟩
      have : 1 ≤ 3 ^ (L + 1) := Nat.pow_pos (by omega)
      have : 1 * (M + 2) ≤ 3 ^ (L + 1) * (M + 2) := Nat.mul_le_mul_right _ this
      omega
    · have lt := len_pos h0
      obtain ⟨d, hd⟩ : ∃ d, one.len = two.len + d := ⟨one.len - two.len, by omega⟩
      have hd1 : 1 ≤ d := by omega
      obtain ⟨q, r, a1, a2, a3, a4⟩ := HtP_div (k := d + 1) h0 h1 h2 (by omega)
      have t3 := three d hd1
      have m0 : M + (d + 1) * (M + 1) + 2 ≤ (d + 2) * (M + 2) := by
        rw [show d + 2 = (d + 1) + 1 by omega, Nat.add_mul (d + 1) 1, Nat.one_mul]
        have : (d + 1) * (M + 2) = (d + 1) * (M + 1) + (d + 1) := by rw [← Nat.mul_succ]
        omega
      have m1 : M + (d + 1) * (M + 2) ≤ (d + 2) * (M + 2) := by
        rw [show d + 2 = (d + 1) + 1 by omega, Nat.add_mul (d + 1) 1, Nat.one_mul]; omega
      have m2 : (d + 2) * (M + 2) ≤ 3 ^ d * (M + 2) := Nat.mul_le_mul_right _ t3
      have m3 : 3 ^ d ≤ 3 ^ (L + 1) := Nat.pow_le_pow_right (by omega) (by omega)
      have m4 : 3 ^ d * (M + 2) ≤ 3 ^ (L + 1) * (M + 2) := Nat.mul_le_mul_right _ m3
      have m5 : 3 ^ (L + 1 - d) * (M + (d + 1) * (M + 1) + 2) ≤ 3 ^ (L + 1) * (M + 2) := by
        have : 3 ^ (L + 1) = 3 ^ (L + 1 - d) * 3 ^ d := by rw [← Nat.pow_add]; congr 1; omega
        rw [this, Nat.mul_assoc]
        exact Nat.mul_le_mul_left _ (by omega)
      have hq : q.len ≤ d + 1 := by
        by_cases hq0 : q = 0
        · subst hq0; rw [len_zero]; omega
        · have h3 := len_mul hq0 h0
          have h4 := len_sub one r
          rw [show one - r = q * two by grind] at h4
          omega
      have hqf : (q * f).len ≤ d + f.len := by have := len_mul_le q f; omega
      have hef := len_sub e (q * f)
      have hM1 : M ≤ 12000000 := by
        have := Nat.mul_le_mul_right (M + 2) (show 1 ≤ 3 ^ (L + 1) from Nat.pow_pos (by omega))
        omega
      obtain ⟨one', e', t, b1, b2, b3, b4, b5⟩ := eu_ex (L + 1 - d) two r f (e - q * f) (M + (d + 1) * (M + 1)) (HtP_up h2 (by
          have : 0 ≤ (d + 1) * (M + 1) := Nat.zero_le _
          omega)) a3 a2 (by omega) (by omega) hf (by omega) (by omega) (by omega) (by omega)
      refine ⟨one', e', t + 1, .step h0 ⟨h0, M, M, d + 1, h1.l, h2.l, by omega, by omega, by omega, by omega⟩ a1 a2 ⟨_, M, a4, h2.r, by omega, by omega, by omega⟩ ⟨M + (d + 1) * (M + 2) + M, Ht_up h1.r (by omega), Ht_mul a4 h2.r, by omega, by omega, by omega⟩ b1, by omega, HtP_up b3 (by omega), b4, by omega⟩
termination_by L => L
decreasing_by omega
end P
end Dn
set_option Elab.async false
set_option linter.all false
set_option maxRecDepth 100000
/-! DnM2: rules to walk compiled code; rows of fractions: places, trimming. -/
namespace Dn
open PySem
section
variable {Φ : Phi} {G : Glo} {n : Nat}
theorem ss_nx {s : CS} {r : CSs} {env env' : DEnv} {k k' : KS} {R : Option Res} (h : denS Φ G n s env k = some (.nx env' k')) (h2 : denSs Φ G n r env' k' = R) : denSs Φ G n (.cons s r) env k = R := by
  rw [denSs, h]; exact h2
theorem ss_rt {s : CS} {r : CSs} {env : DEnv} {k k' : KS} {d : PyData} {b : Bool} (h : denS Φ G n s env k = some (.rt d k' b)) : denSs Φ G n (.cons s r) env k = some (.rt d k' b) := by
  rw [denSs, h]; rfl
theorem ss_bk {s : CS} {r : CSs} {env : DEnv} {k k' : KS} {env' : DEnv} (h : denS Φ G n s env k = some (.bk env' k')) : denSs Φ G n (.cons s r) env k = some (.bk env' k') := by
  rw [denSs, h]; rfl
theorem ws_asg {i : Nat} {e : CE} {env env' : DEnv} {k k' : KS} {d : PyData} (he : den Φ G e false (freeze env (leakE e false)) k = some (d, k')) (hs : envSet (freeze env (leakE e false)) i (.dat (e.fresh d) d) = some env') : denS Φ G n (.asg i e) env k = some (.nx env' k') := by
  simp only [denS, he, Option.bind_some, hs, Option.map_some]
theorem ws_unp {p : PatL} {e : CE} {env env' : DEnv} {k k' : KS} {ds : List PyData} (he : den Φ G e false (freeze env (leakE e false)) k = some (.tuple ds, k')) (hs : bindPL p ds (freeze env (leakE e false)) = some env') : denS Φ G n (.unp p e) env k = some (.nx env' k') := by
  simp only [denS, he, Option.bind_some, hs, Option.map_some]
theorem ws_par {is : List Nat} {a : CA} {env env' : DEnv} {k k' : KS} {ds : List (Bool × PyData)} (he : denO Φ G a (freeze env (leakA a false)) k = some (ds, k')) (hs : setsD is ds (freeze env (leakA a false)) = some env') : denS Φ G n (.par is a) env k = some (.nx env' k') := by
  simp only [denS, he, Option.bind_some, hs, Option.map_some]
theorem ws_ret {e : CE} {env : DEnv} {k k' : KS} {d : PyData} (he : den Φ G e false (freeze env (leakE e false)) k = some (d, k')) : denS Φ G n (.ret e) env k = some (.rt d k' (e.fresh d)) := by
  simp only [denS, he, Option.map_some]
theorem ws_exc {e : CE} {env : DEnv} {k k' : KS} {d : PyData} (he : den Φ G e false (freeze env (leakE e false)) k = some (d, k')) : denS Φ G n (.exc e) env k = some (.nx (freeze env (leakE e false)) k') := by
  simp only [denS, he, Option.map_some]
theorem ws_ifT {c : CE} {a b : CSs} {env : DEnv} {k k' : KS} {R : Option Res} (hc : den Φ G c true (freeze env (leakE c true)) k = some (.bool true, k')) (ha : denSs Φ G n a (freeze env (leakE c true)) k' = R) : denS Φ G n (.iff c a b) env k = R := by
  simp only [denS, hc, Option.bind_some, ha]
theorem ws_ifF {c : CE} {a b : CSs} {env : DEnv} {k k' : KS} {R : Option Res} (hc : den Φ G c true (freeze env (leakE c true)) k = some (.bool false, k')) (ha : denSs Φ G n b (freeze env (leakE c true)) k' = R) : denS Φ G n (.iff c a b) env k = R := by
  simp only [denS, hc, Option.bind_some, ha]
theorem ws_for {p : Pat} {it : CI} {b : CSs} {env : DEnv} {k k' : KS} {xs : List PyData} {R : Option Res} (hi : denI Φ G it (freeze env (leakI it)) k = some (xs, k'))
    (hl : forD (fun x env k => (bindP p x env).bind fun en => denSs Φ G n b en k) xs (freeze env (leakI it)) k' = R) : denS Φ G n (.for_ p it b) env k = R := by
  simp only [denS, hi, Option.bind_some, hl]
theorem ws_set {i : Nat} {ix e : CE} {env env' : DEnv} {k k1 k2 : KS} {d : PyData} {xs : List PyData} {j : Int} {a : Nat} (he : den Φ G e false (freeze env (leakE e false ++ leakE ix true)) k = some (d, k1))
    (hx : (freeze env (leakE e false ++ leakE ix true))[i]? = some (.dat true (.list xs))) (hi : den Φ G ix true (freeze env (leakE e false ++ leakE ix true)) k1 = some (.int j, k2)) (hj : ixD xs.length j = some a)
    (hs : envSet (freeze env (leakE e false ++ leakE ix true)) i (.dat true (.list (xs.set a d))) = some env') : denS Φ G n (.setI i ix e) env k = some (.nx env' k2) := by
  simp only [denS, he, Option.bind_some, hx, hi, hj, hs, Option.map_some]
theorem ws_app {i : Nat} {e : CE} {env env' : DEnv} {k k1 : KS} {d : PyData} {xs : List PyData} (he : den Φ G e false (freeze env (leakE e false)) k = some (d, k1))
    (hx : (freeze env (leakE e false))[i]? = some (.dat true (.list xs))) (hl : lenOk (xs.length + 1) = true)
    (hs : envSet (freeze env (leakE e false)) i (.dat true (.list (xs ++ [d]))) = some env') : denS Φ G n (.app i e) env k = some (.nx env' k1) := by
  simp only [denS, he, Option.bind_some, hx, hl, if_true, hs, Option.map_some]
theorem we_call {f : Nat} {a : CA} {m : Bool} {env : DEnv} {k k1 : KS} {ds : List PyData} {R : Option (PyData × KS)} (ha : denA Φ G a false env k = some (ds, k1)) (h : Φ f (ds.map (Sl.dat false)) k1 = R) : den Φ G (.call f a) m env k = R := by
  simp only [den, ha, Option.bind_some, h]
theorem we_blt {f : Bi} {a : CA} {m : Bool} {env : DEnv} {k k1 : KS} {ds : List PyData} {d : PyData} (ha : denA Φ G a true env k = some (ds, k1)) (h : bltD f ds = some d) : den Φ G (.blt f a) m env k = some (d, k1) := by
  simp only [den, ha, Option.bind_some, h, Option.map_some]
theorem we_bin {o : Bn} {a b : CE} {m : Bool} {env : DEnv} {k k1 k2 : KS} {x y d : PyData} (ha : den Φ G a true env k = some (x, k1)) (hb : den Φ G b true env k1 = some (y, k2)) (h : binD o x y = some d) : den Φ G (.bin o a b) m env k = some (d, k2) := by
  simp only [den, ha, Option.bind_some, hb, h, Option.map_some]
theorem we_cmp {o : Cp} {a b : CE} {m : Bool} {env : DEnv} {k k1 k2 : KS} {x y : PyData} {d : Bool} (ha : den Φ G a true env k = some (x, k1)) (hb : den Φ G b true env k1 = some (y, k2)) (h : cmpD o x y = some d) : den Φ G (.cmp o a b) m env k = some (.bool d, k2) := by
  simp only [den, ha, Option.bind_some, hb, h, Option.map_some]
theorem we_idx {a b : CE} {m : Bool} {env : DEnv} {k k1 k2 : KS} {x y d : PyData} (ha : den Φ G a true env k = some (x, k1)) (hb : den Φ G b true env k1 = some (y, k2)) (h : idxD x y = some d) : den Φ G (.idx a b) m env k = some (d, k2) := by
  simp only [den, ha, Option.bind_some, hb, h, Option.map_some]
theorem we_not {a : CE} {m : Bool} {env : DEnv} {k k1 : KS} {b : Bool} (ha : den Φ G a true env k = some (.bool b, k1)) : den Φ G (.not a) m env k = some (.bool (!b), k1) := by
  simp only [den, ha, Option.bind_some]
theorem we_andT {a b : CE} {m : Bool} {env : DEnv} {k k1 k2 : KS} {d : Bool} (ha : den Φ G a true env k = some (.bool true, k1)) (hb : den Φ G b true env k1 = some (.bool d, k2)) : den Φ G (.and a b) m env k = some (.bool d, k2) := by
  simp only [den, ha, Option.bind_some, hb]
theorem we_andF {a b : CE} {m : Bool} {env : DEnv} {k k1 : KS} (ha : den Φ G a true env k = some (.bool false, k1)) : den Φ G (.and a b) m env k = some (.bool false, k1) := by
  simp only [den, ha, Option.bind_some]
theorem we_orF {a b : CE} {m : Bool} {env : DEnv} {k k1 k2 : KS} {d : Bool} (ha : den Φ G a true env k = some (.bool false, k1)) (hb : den Φ G b true env k1 = some (.bool d, k2)) : den Φ G (.or a b) m env k = some (.bool d, k2) := by
  simp only [den, ha, Option.bind_some, hb]
theorem we_orT {a b : CE} {m : Bool} {env : DEnv} {k k1 : KS} (ha : den Φ G a true env k = some (.bool true, k1)) : den Φ G (.or a b) m env k = some (.bool true, k1) := by
  simp only [den, ha, Option.bind_some]
theorem we_iteT {c a b : CE} {m : Bool} {env : DEnv} {k k1 : KS} {R : Option (PyData × KS)} (hc : den Φ G c true env k = some (.bool true, k1)) (ha : den Φ G a m env k1 = R) : den Φ G (.ite c a b) m env k = R := by
  simp only [den, hc, Option.bind_some, ha]
theorem we_iteF {c a b : CE} {m : Bool} {env : DEnv} {k k1 : KS} {R : Option (PyData × KS)} (hc : den Φ G c true env k = some (.bool false, k1)) (ha : den Φ G b m env k1 = R) : den Φ G (.ite c a b) m env k = R := by
  simp only [den, hc, Option.bind_some, ha]
theorem we_tup {a : CA} {m : Bool} {env : DEnv} {k k1 : KS} {ds : List PyData} (ha : denA Φ G a false env k = some (ds, k1)) : den Φ G (.tup a) m env k = some (.tuple ds, k1) := by
  simp only [den, ha, Option.map_some]
theorem we_lst {a : CA} {m : Bool} {env : DEnv} {k k1 : KS} {ds : List PyData} (ha : denA Φ G a false env k = some (ds, k1)) : den Φ G (.lst a) m env k = some (.list ds, k1) := by
  simp only [den, ha, Option.map_some]
theorem wa_cons {e : CE} {r : CA} {m : Bool} {env : DEnv} {k k1 k2 : KS} {d : PyData} {ds : List PyData} (he : den Φ G e m env k = some (d, k1)) (hr : denA Φ G r m env k1 = some (ds, k2)) : denA Φ G (.cons e r) m env k = some (d :: ds, k2) := by
  simp only [denA, he, Option.bind_some, hr, Option.map_some]
theorem wa_nil {m : Bool} {env : DEnv} {k : KS} : denA Φ G .nil m env k = some ([], k) := rfl
theorem wa_one {e : CE} {m : Bool} {env : DEnv} {k k1 : KS} {d : PyData} (he : den Φ G e m env k = some (d, k1)) : denA Φ G (.cons e .nil) m env k = some ([d], k1) := wa_cons he rfl
theorem wa_two {e e2 : CE} {m : Bool} {env : DEnv} {k k1 k2 : KS} {d d2 : PyData} (he : den Φ G e m env k = some (d, k1)) (h2 : den Φ G e2 m env k1 = some (d2, k2)) : denA Φ G (.cons e (.cons e2 .nil)) m env k = some ([d, d2], k2) := wa_cons he (wa_one h2)
theorem wo_cons {e : CE} {r : CA} {env : DEnv} {k k1 k2 : KS} {d : PyData} {ds : List (Bool × PyData)} (he : den Φ G e false env k = some (d, k1)) (hr : denO Φ G r env k1 = some (ds, k2)) : denO Φ G (.cons e r) env k = some ((e.fresh d, d) :: ds, k2) := by
  simp only [denO, he, Option.bind_some, hr, Option.map_some]
theorem wo_two {e e2 : CE} {env : DEnv} {k k1 k2 : KS} {d d2 : PyData} (he : den Φ G e false env k = some (d, k1)) (h2 : den Φ G e2 false env k1 = some (d2, k2)) : denO Φ G (.cons e (.cons e2 .nil)) env k = some ([(e.fresh d, d), (e2.fresh d2, d2)], k2) := wo_cons he (wo_cons h2 rfl)
/-- turns with an invariant -/
theorem for_inv {f : PyData → DEnv → KS → Option Res} {k : KS} {α : Type} {en : α → PyData} (Inv : List α → DEnv → Prop) (step : ∀ y ys env, Inv (y :: ys) env → ∃ env', f (en y) env k = some (.nx env' k) ∧ Inv ys env') :
    ∀ ys env, Inv ys env → ∃ env', forD f (ys.map en) env k = some (.nx env' k) ∧ Inv [] env'
  | [], env, h => ⟨env, rfl, h⟩
  | y :: ys, env, h => by
    obtain ⟨env1, h1, h2⟩ := step y ys env h
    obtain ⟨env2, h3, h4⟩ := for_inv Inv step ys env1 h2
    exact ⟨env2, by simp only [List.map_cons, forD, h1, Option.bind_some, h3], h4⟩
theorem for_rng {f : PyData → DEnv → KS → Option Res} {k : KS} {en : Nat → PyData} {N : Nat} (Inv : Nat → DEnv → Prop) (step : ∀ i env, i < N → Inv i env → ∃ env', f (en i) env k = some (.nx env' k) ∧ Inv (i + 1) env') :
    ∀ env, Inv 0 env → ∃ env', forD f ((List.range N).map en) env k = some (.nx env' k) ∧ Inv N env' := by
  have key : ∀ m i env, i + m = N → Inv i env → ∃ env', forD f ((List.range' i m).map en) env k = some (.nx env' k) ∧ Inv N env' := by
    intro m
    induction m with
    | zero => intro i env e h; exact ⟨env, rfl, by rw [← e]; exact h⟩
    | succ m ih =>
      intro i env e h
      obtain ⟨env1, h1, h2⟩ := step i env (by omega) h
      obtain ⟨env2, h3, h4⟩ := ih (i + 1) env1 (by omega) h2
      exact ⟨env2, by simp only [List.range'_succ, List.map_cons, forD, h1, Option.bind_some, h3], h4⟩
  intro env h
  rw [List.range_eq_range']
  exact key N 0 env (by omega) h
theorem for_down {f : PyData → DEnv → KS → Option Res} {k : KS} {en : Nat → PyData} {N : Nat} (Inv : Nat → DEnv → Prop) (step : ∀ i env, i < N → Inv (i + 1) env → ∃ env', f (en i) env k = some (.nx env' k) ∧ Inv i env') :
    ∀ env, Inv N env → ∃ env', forD f ((List.range N).map en).reverse env k = some (.nx env' k) ∧ Inv 0 env' := by
  have key : ∀ N env, (∀ i env, i < N → Inv (i + 1) env → ∃ env', f (en i) env k = some (.nx env' k) ∧ Inv i env') → Inv N env → ∃ env', forD f ((List.range N).map en).reverse env k = some (.nx env' k) ∧ Inv 0 env' := by
    intro N
    induction N with
    | zero => intro env _ h; exact ⟨env, rfl, h⟩
    | succ m ih =>
      intro env st h
      obtain ⟨env1, h1, h2⟩ := st m env (by omega) h
      obtain ⟨env2, h3, h4⟩ := ih env1 (fun i env hi => st i env (by omega)) h2
      exact ⟨env2, by simp only [List.range_succ, List.map_append, List.reverse_append, List.map_cons, List.map_nil, List.reverse_cons, List.reverse_nil, List.nil_append, List.cons_append, forD, h1, Option.bind_some, h3], h4⟩
  intro env h
  exact key N env step h
end
theorem At.of {n id : Nat} {as : List Sl} {r : PyData} {f : Fn} (hT : DnLib.T id = some f) (hp : as.all plainSl = true) (hl : as.length = f.pars) (h : ∀ l k, n ≤ l → ∃ b, denSs (Ph l) DnLib.G MW f.body (as ++ List.replicate (f.slots - f.pars) .un) k = some (.rt r k b)) : At (n + 1) id as r :=
  At.mk hT hp fun l k hn => by
    obtain ⟨b, e⟩ := h l k hn
    simp only [runFn, hl, if_true, e, Option.bind_some]
/-- a def that gives nothing back -/
theorem At.ofN {n id : Nat} {as : List Sl} {f : Fn} (hT : DnLib.T id = some f) (hp : as.all plainSl = true) (hl : as.length = f.pars) (h : ∀ l k, n ≤ l → ∃ env, denSs (Ph l) DnLib.G MW f.body (as ++ List.replicate (f.slots - f.pars) .un) k = some (.nx env k)) : At (n + 1) id as .none :=
  At.mk hT hp fun l k hn => by
    obtain ⟨b, e⟩ := h l k hn
    simp only [runFn, hl, if_true, e, Option.bind_some]

def encR (f : List Rat) : PyData := .tuple (f.map enc)
def encP (p : P) : PyData := encR p.l
theorem encP_mk (f : List Rat) : encP (P.mk' f) = encR (trim f) := rfl
theorem glo_zero : DnLib.G 0 = some (enc 0) := rfl
theorem glo_one : DnLib.G 1 = some (enc 1) := rfl
theorem get_enc {f : List Rat} {i : Nat} (h : i < f.length) : (f.map enc)[i]? = some (enc (cf f i)) := by
  rw [List.getElem?_map, List.getElem?_eq_getElem h, cf_eq]
  simp [List.getD, h]
theorem idx_tup {f : List Rat} {i : Nat} (h : i < f.length) : idxD (encR f) (.int (i : Int)) = some (enc (cf f i)) := by
  simp only [encR, idxD, ixD, List.length_map]
  rw [if_pos (by omega), if_pos (by omega), Option.bind_some, Int.toNat_natCast, get_enc h]
theorem idx_lst {f : List Rat} {i : Nat} (h : i < f.length) : idxD (.list (f.map enc)) (.int (i : Int)) = some (enc (cf f i)) := by
  simp only [idxD, ixD, List.length_map]
  rw [if_pos (by omega), if_pos (by omega), Option.bind_some, Int.toNat_natCast, get_enc h]
theorem idx_end {f : List Rat} (h : f ≠ []) : idxD (encR f) (.int (-1)) = some (enc (cf f (f.length - 1))) := by
  have hp := List.length_pos_iff.mpr h
  simp only [encR, idxD, ixD, List.length_map]
  rw [if_neg (by omega), if_pos (by omega), Option.bind_some]
  have e : (-1 + (f.length : Int)).toNat = f.length - 1 := by omega
  rw [e, get_enc (by omega)]
theorem number_at (f : List Rat) (i : Nat) : At 1 19 [da (encR f), da (.int i)] (enc (cf f i)) := At.of rfl rfl rfl fun l k _ => by
  have hl : bltD .len [encR f] = some (.int (f.length : Int)) := by simp [bltD, encR]
  by_cases h : i < f.length
  · exact ⟨_, ss_rt (ws_ret (we_iteT (we_cmp (d := true) rfl (we_blt (wa_one rfl) hl) (by show some (decide _) = _; congr 1; exact decide_eq_true (by omega))) (we_idx rfl rfl (idx_tup h))))⟩
  · rw [cf_ge f i (by omega)]
    exact ⟨_, ss_rt (ws_ret (we_iteF (we_cmp (d := false) rfl (we_blt (wa_one rfl) hl) (by show some (decide _) = _; congr 1; exact decide_eq_false (by omega))) rfl))⟩
end Dn
set_option Elab.async false
set_option linter.all false
set_option maxRecDepth 100000
/-! DnM3: rows of fractions: equality, trimming, sums and multiples. -/
namespace Dn
open PySem
theorem canLay_row : ∀ f : List Rat, PyData.canLayAll0 (f.map enc) = true
  | [] => rfl
  | q :: f => by
    simp only [List.map_cons, PyData.canLayAll0, canLay_row f, Bool.and_true]
    rfl
theorem depth_row : ∀ f : List Rat, PyData.depthAll (f.map enc) ≤ 1
  | [] => by simp [PyData.depthAll]
  | q :: f => by
    have := depth_row f
    simp only [List.map_cons, PyData.depthAll]
    have e : (enc q).depth = 1 := by simp [enc, PyData.depth, PyData.depthAll]
    omega
theorem shaped_row (f : List Rat) : SeqAt.shaped (encR f) = true := by
  have h := depth_row f
  refine Bool.and_eq_true_iff.mpr ⟨?_, decide_eq_true ?_⟩
  · show PyData.canLay0 _ = true
    simp only [encR, PyData.canLay0, canLay_row]
  · show PyData.depth _ ≤ 64
    simp only [encR, PyData.depth]
    omega
theorem shaped_list (f : List Rat) : SeqAt.shaped (.list (f.map enc)) = true := by
  have h := depth_row f
  refine Bool.and_eq_true_iff.mpr ⟨?_, decide_eq_true ?_⟩
  · show PyData.canLay0 _ = true
    simp only [encR, PyData.canLay0, canLay_row]
  · show PyData.depth _ ≤ 64
    simp only [encR, PyData.depth]
    omega
theorem shaped_enc (q : Rat) : SeqAt.shaped (enc q) = true := by
  unfold SeqAt.shaped enc
  simp [PyData.canLay0, PyData.canLayAll0, PyData.depth, PyData.depthAll]
theorem eqv_enc (p q : Rat) : PyData.eqv (enc p) (enc q) = decide (p = q) := by
  unfold enc
  simp only [PyData.eqv, PyData.eqvAll, Bool.and_true]
  by_cases h : p = q
  · subst h; simp
  · simp only [h, decide_false, Bool.and_eq_false_iff, beq_eq_false_iff_ne]
    by_cases h1 : p.num = q.num
    · right
      intro z
      exact h (Rat.ext h1 (by omega))
    · left; exact h1
theorem eqvAll_row : ∀ f g : List Rat, PyData.eqvAll (f.map enc) (g.map enc) = decide (f = g)
  | [], [] => rfl
  | [], _ :: _ => rfl
  | _ :: _, [] => rfl
  | p :: f, q :: g => by
    simp only [List.map_cons, PyData.eqvAll, eqv_enc, eqvAll_row f g]
    by_cases h : p = q <;> by_cases h2 : f = g <;> simp [h, h2]
theorem eqv_row (f g : List Rat) : PyData.eqv (encR f) (encR g) = decide (f = g) := by
  unfold encR
  simp only [PyData.eqv, eqvAll_row]

theorem trim_snoc (f : List Rat) (q : Rat) : trim (f ++ [q]) = if q = 0 then trim f else f ++ [q] := by
  induction f with
  | nil => simp [trim]
  | cons p f ih =>
    simp only [List.cons_append, trim, ih]
    by_cases h : q = 0
    · simp [h]
    · simp only [h, if_false]
      cases f <;> rfl

def trimTest : CE := .and (.cmp .ne (.var 1) (.lst .nil)) (.cmp .eq (.idx (.var 1) (.neg (.int 1))) (.glo 0))
def trimBody : CSs := .cons (.popE 1) .nil
theorem trim_test0 (Φ : Phi) (x : Sl) (k : KS) : den Φ DnLib.G trimTest true [x, .dat true (.list [])] k = some (.bool false, k) := by
  simp [trimTest, den, denA, cmpD, SeqAt.shaped, PyData.canLay0, PyData.canLayAll0, PyData.depth, PyData.depthAll, PyData.eqv, PyData.eqvAll]
theorem idx_last (g : List Rat) (q : Rat) : idxD (.list ((g ++ [q]).map enc)) (.int (-1)) = some (enc q) := by
  simp only [idxD, ixD, List.length_map, List.length_append, List.length_singleton]
  rw [if_neg (by omega), if_pos (by omega)]
  have e : (-1 + ((g.length + 1 : Nat) : Int)).toNat = g.length := by omega
  rw [e, Option.bind_some, List.getElem?_map]
  simp
theorem trim_test1 (Φ : Phi) (x : Sl) (k : KS) (g : List Rat) (q : Rat) : den Φ DnLib.G trimTest true [x, .dat true (.list ((g ++ [q]).map enc))] k = some (.bool (decide (q = 0)), k) := by
  have e1 : PyData.eqv (.list ((g ++ [q]).map enc)) (.list []) = false := by cases g <;> rfl
  have s0 : SeqAt.shaped (.list []) = true := by decide
  have s1 := shaped_list (g ++ [q])
  have s2 := shaped_enc q
  have s3 := shaped_enc 0
  have i1 := idx_last g q
  simp only [trimTest, den, denA, cmpD, s0, s1, s2, s3, e1, i1, eqv_enc, glo_zero, List.getElem?_cons_succ, List.getElem?_cons_zero, Option.bind_some, Option.map_some, Bool.and_self, if_true, Bool.not_false, Bool.not_true, Bool.and_false, Bool.false_eq_true, if_false]
theorem trim_body (Φ : Phi) (x : Sl) (k : KS) (g : List Rat) (q : Rat) : denSs Φ DnLib.G MW trimBody [x, .dat true (.list ((g ++ [q]).map enc))] k = some (.nx [x, .dat true (.list (g.map enc))] k) := by
  have e2 : ((g ++ [q]).map enc).isEmpty = false := by cases g <;> rfl
  have e3 : ((g ++ [q]).map enc).dropLast = g.map enc := by simp
  simp [trimBody, denSs, denS, envSet]
theorem trim_loop (Φ : Phi) (x : Sl) (k : KS) : ∀ (n : Nat) (f : List Rat), f.length < n →
    whlD (fun env k => den Φ DnLib.G trimTest true env k) (fun env k => denSs Φ DnLib.G MW trimBody env k) n [x, .dat true (.list (f.map enc))] k = some (.nx [x, .dat true (.list ((trim f).map enc))] k)
  | 0, f, h => by omega
  | n + 1, f, h => by
    rcases List.eq_nil_or_concat f with rfl | ⟨g, q, rfl⟩
    · simp only [whlD, List.map_nil, trim_test0, Option.bind_some, trim]
    · rw [List.concat_eq_append] at h ⊢
      have ih := trim_loop Φ x k n g (by simp at h; omega)
      simp only [whlD, trim_test1, Option.bind_some, trim_snoc]
      by_cases hq : q = 0
      · simp only [hq, decide_true, if_true]
        rw [← hq, trim_body, Option.bind_some]
        exact ih
      · simp only [hq, decide_false, if_false]

theorem trimmed_list (f : List Rat) (h : f.length < 10000) : At 1 17 [da (.list (f.map enc))] (encR (trim f)) := At.mk (n := 0) rfl rfl fun l k _ => by
  have e := trim_loop (Ph l) (da (.list (f.map enc))) k MW f h
  have ef : freeze [da (.list (f.map enc)), .dat true (.list (f.map enc))] (leakE trimTest true) = [da (.list (f.map enc)), .dat true (.list (f.map enc))] := rfl
  have e0 : denSs (Ph l) DnLib.G MW DnLib.c17 [da (.list (f.map enc)), .un] k = some (.rt (encR (trim f)) k false) := by
    show (denS (Ph l) DnLib.G MW (.asg 1 (.blt .list (.cons (.var 0) .nil))) [da (.list (f.map enc)), .un] k).bind _ = _
    have a1 : denS (Ph l) DnLib.G MW (.asg 1 (.blt .list (.cons (.var 0) .nil))) [da (.list (f.map enc)), .un] k = some (.nx [da (.list (f.map enc)), .dat true (.list (f.map enc))] k) := by
      simp [denS, den, denA, bltD, envSet, CE.fresh, freeze, leakE, leakA]
    have a2 : denS (Ph l) DnLib.G MW (.whl trimTest trimBody) [da (.list (f.map enc)), .dat true (.list (f.map enc))] k = some (.nx [da (.list (f.map enc)), .dat true (.list ((trim f).map enc))] k) := by
      simp only [denS, ef]
      exact e
    rw [a1, Option.bind_some]
    show (denS (Ph l) DnLib.G MW (.whl trimTest trimBody) [da (.list (f.map enc)), .dat true (.list (f.map enc))] k).bind _ = _
    rw [a2, Option.bind_some]
    simp [denSs, denS, den, denA, bltD, CE.fresh, freeze, leakE, leakA, freeze1, encR, List.modify]
  show (denSs (Ph l) DnLib.G MW DnLib.c17 [da (.list (f.map enc)), .un] k).bind _ = _
  rw [e0]
  rfl

/-! ### sizes -/
theorem Sm_of {b : Nat} {p : P} (h : P.Ht b p) (hb : b < 60000000) (i : Nat) : Sm (p.c i) := by
  have h2 := P.Ht_num h i
  have key : ∀ n : Nat, n ≤ 2 ^ b → n.log2 < 60000000 := fun n hn => by
    by_cases h0 : n = 0
    · subst h0; decide
    · have : n.log2 < b + 1 := (Nat.log2_lt h0).mpr (by rw [Nat.pow_succ]; have := Nat.two_pow_pos b; omega)
      omega
  exact ⟨key _ h2.1, key _ h2.2⟩
theorem Sm_mk {b : Nat} {f : List Rat} (h : P.Ht b (P.mk' f)) (hb : b < 60000000) (i : Nat) : Sm (cf f i) := by
  rw [← P.c_mk]; exact Sm_of h hb i
theorem Sm_C {b : Nat} {x : Rat} (h : P.Ht b (P.C x)) (hb : b < 60000000) : Sm x := by
  have := Sm_of h hb 0
  rwa [P.c_C0] at this
theorem Sm_H {D A x : Rat} (hD : P.zI D) (h1 : 1 ≤ D) (h2 : D ≤ A) (hx : P.zI (x * D)) (hA : ab x * D ≤ A) (hb : A ≤ ((2 ^ 59999999 : Nat) : Rat)) : Sm x := by
  refine Sm_C (b := 59999999) ⟨D, P.H_up (A := A) ⟨hD, h1, h2, P.I_C hx, ?_⟩ hb⟩ (by omega)
  rw [P.n1_C]; exact hA
theorem cf_mem {f : List Rat} {x : Rat} (h : x ∈ f) : ∃ i, i < f.length ∧ x = cf f i := by
  obtain ⟨i, hi, e⟩ := List.mem_iff_getElem.mp h
  refine ⟨i, hi, ?_⟩
  rw [cf_eq, ← e]
  simp [List.getD, hi]
/-- a comprehension without a test whose turns leave the cask -/
theorem comp_map {α : Type} {f : PyData → KS → Option (Option PyData × KS)} {e : α → PyData} {g : α → PyData} {k : KS} : ∀ ys : List α, (∀ y ∈ ys, f (e y) k = some (some (g y), k)) → compD f (ys.map e) k = some (ys.map g, k)
  | [], _ => rfl
  | y :: ys, h => by
    simp only [List.map_cons, compD, h y (List.mem_cons_self ..), Option.bind_some, comp_map ys fun z hz => h z (List.mem_cons_of_mem _ hz), Option.map_some]
theorem len_ok {n : Nat} (h : n < 10000) : lenOk n = true := by unfold lenOk; simp; omega
theorem den_comp {Φ : Phi} {p : Pat} {own : List Nat} {it : CI} {e : CE} {m : Bool} {env : DEnv} {k : KS} {α : Type} {en g : α → PyData} {ys : List α} (hi : denI Φ DnLib.G it env k = some (ys.map en, k)) (hl : ys.length < 10000)
    (h : ∀ y ∈ ys, ∃ env1, bindP p (en y) (wipeD env own) = some env1 ∧ den Φ DnLib.G e false env1 k = some (g y, k)) : den Φ DnLib.G (.comp p own it (.bl true) e) m env k = some (.list (ys.map g), k) := by
  simp only [den, hi, Option.bind_some, List.length_map, len_ok hl, Bool.not_true, Bool.false_eq_true, if_false]
  rw [comp_map (g := g) ys fun y hy => ?_]
  · rfl
  · obtain ⟨env1, h1, h2⟩ := h y hy
    simp only [h1, Option.bind_some, h2, Option.map_some]
theorem trimmed_P (f : List Rat) (h : f.length < 10000) : At 1 17 [da (.list (f.map enc))] (encP (P.mk' f)) := trimmed_list f h
theorem scaled_enc {b : Nat} (q : Rat) (p : P) (hq : Sm q) (hp : P.Ht b p) (hb : b < 60000000) (hl : p.len < 10000) : At 5 21 [da (enc q), da (encP p)] (encP (P.C q * p)) := At.of rfl rfl rfl fun l k hn => by
  have e := trimmed_P (p.l.map (q * ·)) (by rw [List.length_map]; exact hl) l k (by omega)
  have ep : P.mk' (p.l.map (q * ·)) = P.C q * p := P.ext fun i => by
    rw [P.C_mul, P.c_mk]; exact cf_smL q p.l i
  rw [ep] at e
  refine ⟨_, ss_rt (ws_ret (we_call (wa_one (den_comp (en := enc) (g := enc ∘ (q * ·)) (ys := p.l) rfl hl fun y hy => ⟨[da (enc q), da (encP p), da (enc y)], rfl, ?_⟩)) ?_))⟩
  · obtain ⟨i, hi, rfl⟩ := cf_mem hy
    exact we_call (wa_two rfl rfl) (times_enc q _ hq (Sm_of hp hb i) l k hn)
  · rw [← List.map_map]; exact e
/-- place by place -/
def zipW (h : Rat → Rat → Rat) (f g : List Rat) : List Rat := (List.range (max f.length g.length)).map fun i => h (cf f i) (cf g i)
theorem cf_range (h : Nat → Rat) (n i : Nat) : cf ((List.range n).map h) i = if i < n then h i else 0 := by
  rw [cf_eq]
  by_cases hi : i < n
  · simp [List.getD, hi]
  · simp [List.getD, hi]
theorem zipW_mk {h : Rat → Rat → Rat} (h0 : h 0 0 = 0) (f g : List Rat) (i : Nat) : (P.mk' (zipW h f g)).c i = h (cf f i) (cf g i) := by
  rw [P.c_mk]
  unfold zipW
  rw [cf_range]
  by_cases hi : i < max f.length g.length
  · rw [if_pos hi]
  · rw [if_neg hi, cf_ge f i (by omega), cf_ge g i (by omega), h0]
theorem rng_ints (n : Nat) : rngD 0 n = (List.range n).map fun i => (.int ((i : Nat) : Int) : PyData) := by
  unfold rngD
  refine List.map_congr_left fun i _ => ?_
  rw [Int.zero_add]
theorem rng_ok {n : Nat} (h : n < 1000000) : rngOk (n : Int) = true := by unfold rngOk; simp; omega
theorem wi_rng {Φ : Phi} {G : Glo} {e : CE} {env : DEnv} {k k1 : KS} {n : Nat} (he : den Φ G e true env k = some (.int (n : Int), k1)) (hn : n < 1000000) : denI Φ G (.rng e) env k = some ((List.range n).map fun i => (.int ((i : Nat) : Int) : PyData), k1) := by
  simp only [denI, he, Option.bind_some, rng_ok hn, if_true, Int.toNat_natCast, rng_ints]
theorem len_row (p : P) : bltD .len [encP p] = some (.int (p.len : Int)) := by simp [bltD, encP, encR, P.len]
theorem len_lst (f : List Rat) : bltD .len [.list (f.map enc)] = some (.int (f.length : Int)) := by simp [bltD]
theorem max_nat (a b : Nat) : bltD .max2 [.int (a : Int), .int (b : Int)] = some (.int ((max a b : Nat) : Int)) := by
  show some (PyData.int (if (b : Int) > (a : Int) then _ else _)) = _
  congr 2
  split <;> omega
theorem zip_def {id cid : Nat} {h : Rat → Rat → Rat} (p q : P) (h0 : h 0 0 = 0) (hl : p.len < 10000) (hl2 : q.len < 10000)
    (hT : DnLib.T id = some ⟨4, 2, (.cons (.asg 2 (.blt .max2 (.cons (.blt .len (.cons (.var 0) .nil)) (.cons (.blt .len (.cons (.var 1) .nil)) .nil)))) (.cons (.ret (.call 17 (.cons (.comp (.one 3) [3] (.rng (.var 2)) (.bl true) (.call cid (.cons (.call 19 (.cons (.var 0) (.cons (.var 3) .nil))) (.cons (.call 19 (.cons (.var 1) (.cons (.var 3) .nil))) .nil)))) .nil))) .nil))⟩)
    (op : ∀ i, At 4 cid [da (enc (p.c i)), da (enc (q.c i))] (enc (h (p.c i) (q.c i)))) : At 5 id [da (encP p), da (encP q)] (encP (P.mk' (zipW h p.l q.l))) := At.of hT rfl rfl fun l k hn => by
  have hz : (zipW h p.l q.l).length < 10000 := by unfold zipW; simp; unfold P.len at hl hl2; omega
  have e := trimmed_P (zipW h p.l q.l) hz l k (by omega)
  refine ⟨_, ss_nx (ws_asg (we_blt (wa_two (we_blt (wa_one rfl) (len_row p)) (we_blt (wa_one rfl) (len_row q))) (max_nat _ _)) rfl) (ss_rt (ws_ret (we_call (wa_one (den_comp (en := fun i => .int ((i : Nat) : Int)) (g := fun i => enc (h (p.c i) (q.c i))) (ys := List.range (max p.len q.len)) (wi_rng rfl (by omega)) (by simp; omega) fun i hi => ⟨[da (encP p), da (encP q), da (.int ((max p.len q.len : Nat) : Int)), da (.int (i : Int))], rfl, ?_⟩)) ?_)))⟩
  · exact we_call (wa_two (we_call (wa_two rfl rfl) (number_at p.l i l k (by omega))) (we_call (wa_two rfl rfl) (number_at q.l i l k (by omega)))) (op i l k hn)
  · unfold zipW at e
    rw [List.map_map] at e
    exact e
theorem added_enc (p q : P) (h : P.Ad p q) : At 5 20 [da (encP p), da (encP q)] (encP (p + q)) := by
  obtain ⟨a, h1, h2, h3, h4, h5⟩ := h
  have e : P.mk' (zipW (· + ·) p.l q.l) = p + q := P.ext fun i => by rw [zipW_mk (by grind), P.c_add]; rfl
  rw [← e]
  exact zip_def p q (by grind) (by omega) (by omega) rfl fun i => plus_enc _ _ (Sm_of h1 (by omega) i) (Sm_of h2 (by omega) i)
theorem lessened_enc (p q : P) (h : P.Ad p q) : At 5 22 [da (encP p), da (encP q)] (encP (p - q)) := by
  obtain ⟨a, h1, h2, h3, h4, h5⟩ := h
  have e : P.mk' (zipW (· - ·) p.l q.l) = p - q := P.ext fun i => by rw [zipW_mk (by grind), P.c_sub]; rfl
  rw [← e]
  exact zip_def p q (by grind) (by omega) (by omega) rfl fun i => minus_enc _ _ (Sm_of h1 (by omega) i) (Sm_of h2 (by omega) i)
end Dn
set_option Elab.async false
set_option linter.all false
/-! DnP6: what the loops of product and division keep. Plain Lean. -/
namespace Dn
namespace P
theorem mk_take : ∀ (f : List Rat) (i : Nat), i < f.length → mk' (f.take (i + 1)) = mk' (f.take i) + C (cf f i) * X ^ i
  | [], i, h => by simp at h
  | a :: f, 0, h => by
    rw [List.take_succ_cons, List.take_zero, List.take_zero, mk_cons, mk_nil, cf_zero, Lean.Grind.Semiring.pow_zero]; grind
  | a :: f, i + 1, h => by
    rw [List.take_succ_cons, List.take_succ_cons, mk_cons, mk_cons, cf_succ, mk_take f i (by simpa using h), Lean.Grind.Semiring.pow_succ]; grind
theorem cf_take : ∀ (f : List Rat) (i j : Nat), cf (f.take i) j = if j < i then cf f j else 0
  | [], i, j => by simp
  | a :: f, 0, j => by simp
  | a :: f, i + 1, 0 => by simp
  | a :: f, i + 1, j + 1 => by
    rw [List.take_succ_cons, cf_succ, cf_succ, cf_take f i j]
    by_cases h : j < i
    · rw [if_pos h, if_pos (by omega)]
    · rw [if_neg h, if_neg (by omega)]
theorem n1L_take : ∀ (f : List Rat) (i : Nat), n1L (f.take i) ≤ n1L f
  | [], i => by simp
  | a :: f, 0 => by simp [n1L]; have := n1L_nn f; have := ab_nn a; grind
  | a :: f, i + 1 => by rw [List.take_succ_cons]; simp only [n1L]; have := n1L_take f i; grind
theorem H_take {D A : Rat} {p : P} (h : H D A p) (i : Nat) : H D A (mk' (p.l.take i)) := by
  obtain ⟨h1, h2, h3, h4, h5⟩ := h
  refine ⟨h1, h2, h3, fun j => ?_, ?_⟩
  · rw [c_mk, cf_take]
    split
    · exact h4 j
    · rw [Rat.zero_mul]; exact zI_zero
  · rw [n1_mk]
    have := Rat.mul_le_mul_of_nonneg_right (n1L_take p.l i) (show 0 ≤ D by grind)
    show _ ≤ A
    have e : n1L p.l = p.n1 := rfl
    grind
theorem H_C {D A : Rat} {p : P} (h : H D A p) (i : Nat) : H D A (C (p.c i)) := by
  obtain ⟨l1, l2⟩ := H_lead h i
  exact ⟨h.1, h.2.1, h.2.2.1, I_C l1, by rw [n1_C]; exact l2⟩
theorem H_Xk {D A : Rat} {p : P} (h : H D A p) (k : Nat) : H D A (X ^ k * p) := by
  obtain ⟨h1, h2, h3, h4, h5⟩ := h
  exact ⟨h1, h2, h3, I_Xk k h4, by rw [n1_Xk]; exact h5⟩
/-- found ahead of the turn i, j of a product -/
def MulV (p q : P) (i j : Nat) : P := mk' (p.l.take i) * q + C (p.c i) * (X ^ i * mk' (q.l.take j))
theorem MulV_zero (p q : P) : MulV p q 0 0 = 0 := by
  unfold MulV
  rw [List.take_zero, List.take_zero, mk_nil]; grind
theorem MulV_step (p q : P) (i j : Nat) (hj : j < q.len) : MulV p q i (j + 1) = MulV p q i j + C (p.c i * q.c j) * X ^ (i + j) := by
  unfold MulV
  rw [mk_take q.l j hj, C_mulC, Lean.Grind.Semiring.pow_add]
  show _ + _ * (_ * (_ + C (q.c j) * _)) = _
  grind
theorem MulV_row (p q : P) (i : Nat) (hi : i < p.len) : MulV p q i q.len = MulV p q (i + 1) 0 := by
  unfold MulV
  rw [mk_take p.l i hi, List.take_zero, mk_nil, show q.l.take q.len = q.l from List.take_length, mk_l]
  show _ = (_ + C (p.c i) * _) * q + _
  grind
theorem MulV_end (p q : P) : MulV p q p.len 0 = p * q := by
  unfold MulV
  rw [List.take_zero, mk_nil, show p.l.take p.len = p.l from List.take_length, mk_l]; grind
theorem MulV_Ht {a b : Nat} {p q : P} (hp : Ht a p) (hq : Ht b q) (i j : Nat) : Ht (a + b + 1) (MulV p q i j) := by
  obtain ⟨D, hp⟩ := hp
  obtain ⟨E, hq⟩ := hq
  refine (Ht_add' ⟨D * E, ?_, ?_⟩).1
  · rw [pow_add]; exact H_mul (H_take hp i) hq
  · rw [pow_add]; exact H_mul (H_C hp i) (H_Xk (H_take hq j) i)
theorem MulV_x {a b : Nat} {p q : P} (hp : Ht a p) (hq : Ht b q) (i j : Nat) : Ht (a + b) (C (p.c i * q.c j)) := by
  obtain ⟨D, hp⟩ := hp
  obtain ⟨E, hq⟩ := hq
  rw [C_mulC]
  exact ⟨D * E, by rw [pow_add]; exact H_mul (H_C hp i) (H_C hq j)⟩

/-- a quotient's number times x -/
theorem quo_x {D A E B a b x : Rat} (h1 : zI D) (h2 : 1 ≤ D) (h3 : D ≤ A) (ha : zI (a * D)) (ha2 : ab a * D ≤ A) (g1 : zI E) (g2 : 1 ≤ E) (hb : zI (b * E)) (hb0 : b ≠ 0) (hb2 : ab b * E ≤ B) (hx : zI (x * E)) (hx2 : ab x * E ≤ B) :
    ∃ D', H D' (A * B) (C (a / b * x)) := by
  have hE0 : E ≠ 0 := by grind
  have hbE : b * E ≠ 0 := by grind
  have hL1 : 1 ≤ ab (b * E) := zI_one hb hbE
  have hLB : ab (b * E) ≤ B := by rw [ab_mul, ab_of_nn (show 0 ≤ E by grind)]; exact hb2
  have m0 : 1 ≤ D * ab (b * E) := by have := mul_mono h2 hL1 (by grind) (by grind); grind
  refine ⟨D * ab (b * E), zI_mul h1 (zI_ab hb), m0, mul_mono h3 hLB (by grind) (by grind), I_C ?_, ?_⟩
  · have t3 : a / b * x * (D * ab (b * E)) = a * D * (x * E) ∨ a / b * x * (D * ab (b * E)) = -(a * D * (x * E)) := by
      unfold ab
      split
      · right; grind
      · left; grind
    rcases t3 with t3 | t3
    · rw [t3]; exact zI_mul ha hx
    · rw [t3]; exact zI_neg (zI_mul ha hx)
  · rw [n1_C]
    have e2 : ab (a / b * x) * (D * ab (b * E)) = (ab a * D) * (ab x * E) := by
      have : ab a = ab (a / b) * ab b := by rw [← ab_mul]; congr 1; grind
      rw [this, ab_mul, ab_mul, ab_of_nn (show 0 ≤ E by grind)]; grind
    rw [e2]
    exact mul_mono ha2 hx2 (Rat.mul_nonneg (ab_nn x) (by grind)) (by grind)
/-- ahead of the turn of the shift s (from K down) -/
structure DivI (a b K : Nat) (f g : P) (s : Nat) (left found : List Rat) : Prop where
  ll : left.length = f.len
  fl : found.length = K
  eq : f = mk' found * g + mk' left
  top : ∀ i, s + g.len ≤ i + 1 → cf left i = 0
  low : ∀ i, i < s → cf found i = 0
  ht : Ht (a + (K - s) * (b + 1)) (mk' left)
/-- within this turn, ahead of the number j -/
structure DivJ (a b K : Nat) (f g : P) (s j : Nat) (left0 left found : List Rat) : Prop where
  ll : left.length = f.len
  fl : found.length = K
  fs : cf found s = cf left0 (s + g.len - 1) / g.lead
  eq : mk' left = mk' left0 - C (cf left0 (s + g.len - 1) / g.lead) * (X ^ s * mk' (g.l.take j))
  ht : Ht (a + (K - s) * (b + 1)) (mk' left)
theorem DivI.start {a b : Nat} {f g : P} (ha : Ht a f) (hg : g ≠ 0) : DivI a b (f.len + 1 - g.len) f g (f.len + 1 - g.len) f.l (List.replicate (f.len + 1 - g.len) 0) where
  ll := rfl
  fl := List.length_replicate
  eq := by rw [mk_zeros, mk_l]; grind
  top := fun i h => c_ge (p := f) (by omega)
  low := fun i h => by rw [cf_eq]; simp [List.getD, h]
  ht := by rw [mk_l, Nat.sub_self, Nat.zero_mul, Nat.add_zero]; exact ha
theorem cf_set : ∀ (f : List Rat) (i j : Nat) (v : Rat), i < f.length → cf (f.set i v) j = if j = i then v else cf f j
  | [], i, j, v, h => by simp at h
  | a :: f, 0, 0, v, h => rfl
  | a :: f, 0, j + 1, v, h => rfl
  | a :: f, i + 1, 0, v, h => rfl
  | a :: f, i + 1, j + 1, v, h => by
    rw [List.set_cons_succ, cf_succ, cf_succ, cf_set f i j v (by simpa using h)]
    by_cases e : j = i
    · rw [if_pos e, if_pos (by omega)]
    · rw [if_neg e, if_neg (by omega)]
/-- sizes within a turn -/
theorem DivI.size {a b K s : Nat} {f g : P} {left found : List Rat} (h : DivI a b K f g (s + 1) left found) (hb : Ht b g) (hg : g ≠ 0) (hs : s < K) :
    (∀ x j, x = 1 ∨ x = g.c j → Ht (a + (K - s) * (b + 1)) (C (cf left (s + g.len - 1) / g.lead * x))) ∧
    (∀ j, Ht (a + (K - s) * (b + 1)) (mk' left - C (cf left (s + g.len - 1) / g.lead) * (X ^ s * mk' (g.l.take j)))) := by
  obtain ⟨D, hD⟩ := h.ht
  obtain ⟨E, hE⟩ := hb
  have e0 : K - s = (K - (s + 1)) + 1 := by omega
  have e1 : ((2 ^ (a + (K - s) * (b + 1)) : Nat) : Rat) = 2 * (((2 ^ (a + (K - (s + 1)) * (b + 1)) : Nat) : Rat) * ((2 ^ b : Nat) : Rat)) := by
    rw [e0, Nat.add_mul, Nat.one_mul, show a + ((K - (s + 1)) * (b + 1) + (b + 1)) = 1 + (a + (K - (s + 1)) * (b + 1) + b) by omega, pow_add, pow_add]
    rfl
  obtain ⟨l1, l2⟩ := H_lead hD (s + g.len - 1)
  rw [c_mk] at l1 l2
  obtain ⟨k1, k2⟩ := H_lead hE (g.len - 1)
  have hl := lead_ne hg
  refine ⟨fun x j hx => ?_, fun j => ?_⟩
  · have hx1 : zI (x * E) ∧ ab x * E ≤ ((2 ^ b : Nat) : Rat) := by
      rcases hx with rfl | rfl
      · rw [Rat.one_mul, ab_of_nn (by grind), Rat.one_mul]
        exact ⟨hE.1, hE.2.2.1⟩
      · exact H_lead hE j
    obtain ⟨D', h'⟩ := quo_x (b := g.lead) hD.1 hD.2.1 hD.2.2.1 l1 l2 hE.1 hE.2.1 k1 hl k2 hx1.1 hx1.2
    refine ⟨D', H_up h' ?_⟩
    rw [e1]
    have := h'.2.1
    have := h'.2.2.1
    grind
  · exact ⟨_, by rw [e1]; exact step_H (b := g.lead) s hD (H_take hE j) l1 l2 k1 hl k2⟩
theorem DivJ.start {a b K s : Nat} {f g : P} {left found : List Rat} (h : DivI a b K f g (s + 1) left found) (hb : Ht b g) (hg : g ≠ 0) (hs : s < K) :
    DivJ a b K f g s 0 left left (found.set s (cf left (s + g.len - 1) / g.lead)) where
  ll := h.ll
  fl := by rw [List.length_set]; exact h.fl
  fs := by rw [cf_set _ _ _ _ (by rw [h.fl]; exact hs), if_pos rfl]
  eq := by rw [List.take_zero, mk_nil]; grind
  ht := by
    have := (h.size hb hg hs).2 0
    rw [List.take_zero, mk_nil] at this
    rw [show mk' left - C (cf left (s + g.len - 1) / g.lead) * (X ^ s * 0) = mk' left by grind] at this
    exact this
theorem DivJ.step {a b K s j : Nat} {f g : P} {left0 left found found0 : List Rat} (h0 : DivI a b K f g (s + 1) left0 found0) (hb : Ht b g) (hg : g ≠ 0) (hs : s < K) (hK : K + g.len ≤ f.len + 1) (h : DivJ a b K f g s j left0 left found) (hj : j < g.len) :
    DivJ a b K f g s (j + 1) left0 (left.set (s + j) (cf left (s + j) - cf found s * g.c j)) found where
  ll := by rw [List.length_set]; exact h.ll
  fl := h.fl
  fs := h.fs
  eq := by
    rw [mk_set _ _ _ (by rw [h.ll]; omega), h.eq, mk_take g.l j hj, h.fs, Lean.Grind.Semiring.pow_add, C_sub, C_sub, C_mulC]
    show _ = _ - _ * (_ * (_ + C (g.c j) * _))
    grind
  ht := by
    have e : mk' (left.set (s + j) (cf left (s + j) - cf found s * g.c j)) = mk' left0 - C (cf left0 (s + g.len - 1) / g.lead) * (X ^ s * mk' (g.l.take (j + 1))) := by
      rw [mk_set _ _ _ (by rw [h.ll]; omega), h.eq, mk_take g.l j hj, h.fs, Lean.Grind.Semiring.pow_add, C_sub, C_sub, C_mulC]
      show _ = _ - _ * (_ * (_ + C (g.c j) * _))
      grind
    rw [e]
    exact (h0.size hb hg hs).2 (j + 1)
theorem DivJ.fin {a b K s : Nat} {f g : P} {left0 left found : List Rat} (h0 : DivI a b K f g (s + 1) left0 found) (hg : g ≠ 0) (hs : s < K)
    (h : DivJ a b K f g s g.len left0 left (found.set s (cf left0 (s + g.len - 1) / g.lead))) : DivI a b K f g s left (found.set s (cf left0 (s + g.len - 1) / g.lead)) where
  ll := h.ll
  fl := h.fl
  eq := by
    rw [mk_set _ _ _ (by rw [h0.fl]; exact hs), h.eq, h0.low s (by omega), show g.l.take g.len = g.l from List.take_length, mk_l]
    have := h0.eq
    rw [show cf left0 (s + g.len - 1) / g.lead - 0 = cf left0 (s + g.len - 1) / g.lead by grind]
    grind
  top := fun i hi => by
    have e : cf left i = (mk' left).c i := (c_mk _ _).symm
    rw [e, h.eq, c_sub, C_mul, c_mk, show g.l.take g.len = g.l from List.take_length, mk_l]
    have hgl := len_pos hg
    have hl := lead_ne hg
    by_cases hi2 : i = s + g.len - 1
    · subst hi2
      have e1 : (X ^ s * g).c (s + g.len - 1) = g.lead := by
        rw [show s + g.len - 1 = (g.len - 1) + s by omega, Xk_mul]; rfl
      rw [e1]; grind
    · rw [h0.top i (by omega)]
      have : (X ^ s * g).c i = 0 := by
        rw [show i = (i - s) + s by omega, Xk_mul]
        exact c_ge (by omega)
      rw [this]; grind
  low := fun i hi => by
    rw [cf_set _ _ _ _ (by rw [h0.fl]; exact hs), if_neg (by omega)]
    exact h0.low i (by omega)
  ht := h.ht
theorem DivI.fin {a b K : Nat} {f g : P} {left found : List Rat} (hg : g ≠ 0) (h : DivI a b K f g 0 left found) {q r : P} (e : f = q * g + r) (hr : r.len < g.len) : mk' found = q ∧ mk' left = r := by
  have hl := len_pos hg
  have : (mk' left).len ≤ g.len - 1 := len_le fun i hi => by rw [c_mk]; exact h.top i (by omega)
  have := div_unique h.eq (by omega) e hr
  exact this
end P
end Dn
set_option Elab.async false
set_option linter.all false
set_option maxRecDepth 100000
/-! DnM4: products and divisions of rows (the package's). -/
namespace Dn
open PySem
theorem zeros_list (n : Nat) (h : n < 10000) (d : PyData) (m : Int) (hm : m = (n : Int)) : binD .mul (.list [d]) (.int m) = some (.list (List.replicate n d)) := by
  subst hm
  have e : (List.replicate n [d]).flatten = List.replicate n d := by
    induction n with
    | zero => rfl
    | succ n ih => rw [List.replicate_succ, List.flatten_cons, ih (by omega), List.replicate_succ]; rfl
  simp only [binD, List.length_singleton, Nat.one_mul, Int.toNat_natCast, len_ok h, e]
  rw [if_pos]
  simp; omega
theorem zeros_enc (n : Nat) : List.replicate n (enc 0) = (List.replicate n (0 : Rat)).map enc := by rw [List.map_replicate]
theorem itD_row : ∀ (f : List Rat) (n : Nat), itD (f.map enc) n = (List.range f.length).map fun i => .tuple [.int ((n + i : Nat) : Int), enc (cf f i)]
  | [], n => rfl
  | a :: f, n => by
    rw [List.map_cons, itD, itD_row f (n + 1), List.length_cons, List.range_succ_eq_map, List.map_cons, List.map_map]
    congr 1
    refine List.map_congr_left fun i _ => ?_
    simp only [Function.comp, cf_succ]
    congr 4; omega
theorem wi_enum {Φ : Phi} {G : Glo} {e : CE} {env : DEnv} {k k1 : KS} {p : P} (he : den Φ G e false env k = some (encP p, k1)) : denI Φ G (.enum e) env k = some ((List.range p.len).map fun i => (.tuple [.int ((i : Nat) : Int), enc (p.c i)] : PyData), k1) := by
  simp only [denI, he, Option.bind_some]
  show some (itD (p.l.map enc) 0, k1) = _
  congr 2
  rw [itD_row]
  refine List.map_congr_left fun i _ => ?_
  rw [Nat.zero_add]; rfl
theorem ixD_nat {n i : Nat} (h : i < n) : ixD n (i : Int) = some i := by
  unfold ixD
  rw [if_pos (by omega), if_pos (by omega), Int.toNat_natCast]
theorem idx_i {f : List Rat} {i : Nat} {j : Int} (h : i < f.length) (hj : j = (i : Int)) : idxD (.list (f.map enc)) (.int j) = some (enc (cf f i)) := by subst hj; exact idx_lst h
theorem map_set (f : List Rat) (i : Nat) (x : Rat) : (f.map enc).set i (enc x) = (f.set i x).map enc := by rw [List.map_set]
theorem envSet_lt {env : DEnv} {i : Nat} {s : Sl} {env' : DEnv} (h : i < env.length) (e : env.set i s = env') : envSet env i s = some env' := by unfold envSet; rw [if_pos h, e]

def mulBody : CSs := (.cons (.for_ (.tup (.cons (.one 5) (.cons (.one 6) .nil))) (.enum (.var 1)) (.cons (.setI 2 (.bin .add (.var 3) (.var 5)) (.call 9 (.cons (.idx (.var 2) (.bin .add (.var 3) (.var 5))) (.cons (.call 11 (.cons (.var 4) (.cons (.var 6) .nil))) .nil)))) .nil)) .nil)
def mulIn : CSs := (.cons (.setI 2 (.bin .add (.var 3) (.var 5)) (.call 9 (.cons (.idx (.var 2) (.bin .add (.var 3) (.var 5))) (.cons (.call 11 (.cons (.var 4) (.cons (.var 6) .nil))) .nil)))) .nil)
abbrev ow (f : List Rat) : Sl := .dat true (.list (f.map enc))
/-- one turn within -/
theorem mul_in {a b l i j : Nat} {p q : P} {k : KS} (ha : P.Ht a p) (hb : P.Ht b q) (hab : a + b ≤ 50000000) (hl : 4 ≤ l) (hi : i < p.len) (hj : j < q.len) {f : List Rat} (hf : f.length = p.len + q.len) (hv : P.mk' f = P.MulV p q i j) :
    denSs (Ph l) DnLib.G MW mulIn [da (encP p), da (encP q), ow f, da (.int (i : Int)), da (enc (p.c i)), da (.int (j : Int)), da (enc (q.c j))] k
      = some (.nx [da (encP p), da (encP q), ow (f.set (i + j) (cf f (i + j) + p.c i * q.c j)), da (.int (i : Int)), da (enc (p.c i)), da (.int (j : Int)), da (enc (q.c j))] k) := by
  have hij : i + j < f.length := by omega
  have t1 := times_enc (p.c i) (q.c j) (Sm_of ha (by omega) i) (Sm_of hb (by omega) j) l k hl
  have s1 : Sm (cf f (i + j)) := by
    have := P.MulV_Ht ha hb i j
    rw [← hv] at this
    exact Sm_mk this (by omega) _
  have t2 := plus_enc (cf f (i + j)) (p.c i * q.c j) s1 (Sm_C (P.MulV_x ha hb i j) (by omega)) l k hl
  refine ss_nx (ws_set (a := i + j) (j := ((i : Int) + (j : Int))) (we_call (wa_two (we_idx rfl (we_bin rfl rfl rfl) (idx_i hij (by omega))) (we_call (wa_two rfl rfl) t1)) t2) rfl (we_bin rfl rfl rfl) ?_ ?_) rfl
  · rw [List.length_map, show (i : Int) + (j : Int) = ((i + j : Nat) : Int) by omega]
    exact ixD_nat hij
  · rw [map_set]; rfl
theorem mul_out {a b l i : Nat} {p q : P} {k : KS} (ha : P.Ht a p) (hb : P.Ht b q) (hab : a + b ≤ 50000000) (hl : 4 ≤ l) (hi : i < p.len) {f : List Rat} (hf : f.length = p.len + q.len) (hv : P.mk' f = P.MulV p q i 0) {s5 s6 : Sl} :
    ∃ f' s5' s6', denSs (Ph l) DnLib.G MW mulBody [da (encP p), da (encP q), ow f, da (.int (i : Int)), da (enc (p.c i)), s5, s6] k
      = some (.nx [da (encP p), da (encP q), ow f', da (.int (i : Int)), da (enc (p.c i)), s5', s6'] k) ∧ f'.length = p.len + q.len ∧ P.mk' f' = P.MulV p q (i + 1) 0 := by
  obtain ⟨env', h1, f', s5', s6', rfl, h3, h4⟩ := for_rng (k := k) (N := q.len) (en := fun j => (.tuple [.int ((j : Nat) : Int), enc (q.c j)] : PyData))
    (f := fun x env k => (bindP (.tup (.cons (.one 5) (.cons (.one 6) .nil))) x env).bind fun en => denSs (Ph l) DnLib.G MW mulIn en k)
    (fun j env => ∃ f' s5 s6, env = [da (encP p), da (encP q), ow f', da (.int (i : Int)), da (enc (p.c i)), s5, s6] ∧ f'.length = p.len + q.len ∧ P.mk' f' = P.MulV p q i j)
    (fun j env hj ⟨f', s5, s6, he, h3, h4⟩ => by
      subst he
      refine ⟨_, mul_in ha hb hab hl hi hj h3 h4, _, _, _, rfl, by rw [List.length_set]; exact h3, ?_⟩
      rw [P.mk_set _ _ _ (by omega), h4, P.MulV_step p q i j hj]
      congr 3; grind)
    [da (encP p), da (encP q), ow f, da (.int (i : Int)), da (enc (p.c i)), s5, s6] ⟨f, s5, s6, rfl, hf, hv⟩
  exact ⟨f', s5', s6', ss_nx (ws_for (wi_enum rfl) h1) rfl, h3, by rw [h4, P.MulV_row p q i hi]⟩
theorem multiplied_enc (p q : P) (h : P.Ml p q) : At 5 23 [da (encP p), da (encP q)] (encP (p * q)) := At.of rfl rfl rfl fun l k hl => by
  obtain ⟨a, b, ha, hb, hab, hp, hq⟩ := h
  obtain ⟨env', h1, f', s3, s4, s5, s6, rfl, h3, h4⟩ := for_rng (k := k) (N := p.len) (en := fun j => (.tuple [.int ((j : Nat) : Int), enc (p.c j)] : PyData))
    (f := fun x env k => (bindP (.tup (.cons (.one 3) (.cons (.one 4) .nil))) x env).bind fun en => denSs (Ph l) DnLib.G MW mulBody en k)
    (fun j env => ∃ f' s3 s4 s5 s6, env = [da (encP p), da (encP q), ow f', s3, s4, s5, s6] ∧ f'.length = p.len + q.len ∧ P.mk' f' = P.MulV p q j 0)
    (fun j env hj ⟨f', s3, s4, s5, s6, he, h3, h4⟩ => by
      subst he
      obtain ⟨f2, s5', s6', e1, e2, e3⟩ := mul_out (k := k) (s5 := s5) (s6 := s6) ha hb hab hl hj h3 h4
      exact ⟨_, e1, _, _, _, _, _, rfl, e2, e3⟩)
    [da (encP p), da (encP q), ow (List.replicate (p.len + q.len) 0), .un, .un, .un, .un] ⟨_, _, _, _, _, rfl, List.length_replicate, by rw [P.mk_zeros, P.MulV_zero]⟩
  have e := trimmed_P f' (by omega) l k (by omega)
  rw [h4, P.MulV_end] at e
  refine ⟨_, ss_nx (ws_asg (env' := [da (encP p), da (encP q), ow (List.replicate (p.len + q.len) 0), .un, .un, .un, .un]) (d := .list ((List.replicate (p.len + q.len) (0 : Rat)).map enc)) (we_bin (we_lst (wa_one rfl)) (we_bin (we_blt (wa_one rfl) (len_row p)) (we_blt (wa_one rfl) (len_row q)) rfl) ?_) rfl) (ss_nx (ws_for (wi_enum rfl) h1) (ss_rt (ws_ret (we_call (wa_one rfl) e))))⟩
  rw [← zeros_enc]
  exact zeros_list _ (by omega) _ _ (by omega)

def divIn : CSs := (.cons (.setI 2 (.bin .add (.var 4) (.var 5)) (.call 10 (.cons (.idx (.var 2) (.bin .add (.var 4) (.var 5))) (.cons (.call 11 (.cons (.idx (.var 3) (.var 4)) (.cons (.var 6) .nil))) .nil)))) .nil)
def divBody : CSs := (.cons (.setI 3 (.var 4) (.call 12 (.cons (.idx (.var 2) (.bin .sub (.bin .add (.var 4) (.blt .len (.cons (.var 1) .nil))) (.int 1))) (.cons (.idx (.var 1) (.neg (.int 1))) .nil)))) (.cons (.for_ (.tup (.cons (.one 5) (.cons (.one 6) .nil))) (.enum (.var 1)) divIn) .nil))
theorem neg_one {Φ : Phi} {G : Glo} {m : Bool} {env : DEnv} {k : KS} : den Φ G (.neg (.int 1)) m env k = some (.int (-1), k) := rfl
theorem div_pow {a b K s k : Nat} (hk : K ≤ k) (h : a + k * (b + 2) ≤ 50000000) : a + (K - s) * (b + 1) < 60000000 := by
  have : (K - s) * (b + 1) ≤ k * (b + 2) := Nat.mul_le_mul (by omega) (by omega)
  omega
theorem div_in {a b kk l s j : Nat} {f g : P} {k : KS} {left0 left found found0 : List Rat} (hb : P.Ht b g) (hg : g ≠ 0) {K : Nat} (hK : K = f.len + 1 - g.len) (hK2 : K ≤ kk) (hab : a + kk * (b + 2) ≤ 50000000) (hl : 4 ≤ l) (hs : s < K) (hj : j < g.len)
    (h0 : P.DivI a b K f g (s + 1) left0 found0) (h : P.DivJ a b K f g s j left0 left found) :
    denSs (Ph l) DnLib.G MW divIn [da (encP f), da (encP g), ow left, ow found, da (.int (s : Int)), da (.int (j : Int)), da (enc (g.c j))] k
      = some (.nx [da (encP f), da (encP g), ow (left.set (s + j) (cf left (s + j) - cf found s * g.c j)), ow found, da (.int (s : Int)), da (.int (j : Int)), da (enc (g.c j))] k) := by
  have hgl := P.len_pos hg
  have hp := div_pow (s := s) hK2 hab
  have hij : s + j < left.length := by rw [h.ll]; omega
  have sz := (h0.size hb hg hs).1
  have e1 : Sm (cf found s) := by
    have := sz 1 0 (.inl rfl)
    rw [Rat.mul_one, ← h.fs] at this
    exact Sm_C this hp
  have hbm : b < 60000000 := by
    have : 1 * (b + 2) ≤ kk * (b + 2) := Nat.mul_le_mul_right _ (by omega)
    omega
  have t1 := times_enc (cf found s) (g.c j) e1 (Sm_of hb hbm j) l k hl
  have e2 : Sm (cf found s * g.c j) := by
    have := sz (g.c j) j (.inr rfl)
    rw [← h.fs] at this
    exact Sm_C this hp
  have t2 := minus_enc (cf left (s + j)) (cf found s * g.c j) (Sm_mk h.ht hp _) e2 l k hl
  refine ss_nx (ws_set (a := s + j) (j := ((s : Int) + (j : Int))) (we_call (wa_two (we_idx rfl (we_bin rfl rfl rfl) (idx_i hij (by omega))) (we_call (wa_two (we_idx rfl rfl (idx_lst (by rw [h.fl]; exact hs))) rfl) t1)) t2) rfl (we_bin rfl rfl rfl) ?_ ?_) rfl
  · rw [List.length_map, show (s : Int) + (j : Int) = ((s + j : Nat) : Int) by omega]
    exact ixD_nat hij
  · rw [map_set]; rfl
theorem div_out {a b kk l s : Nat} {f g : P} {k : KS} {left found : List Rat} (hb : P.Ht b g) (hg : g ≠ 0) {K : Nat} (hK : K = f.len + 1 - g.len) (hK2 : K ≤ kk) (hab : a + kk * (b + 2) ≤ 50000000) (hl : 4 ≤ l) (hs : s < K)
    (h : P.DivI a b K f g (s + 1) left found) {s5 s6 : Sl} : ∃ left' found' s5' s6', denSs (Ph l) DnLib.G MW divBody [da (encP f), da (encP g), ow left, ow found, da (.int (s : Int)), s5, s6] k
      = some (.nx [da (encP f), da (encP g), ow left', ow found', da (.int (s : Int)), s5', s6'] k) ∧ P.DivI a b K f g s left' found' := by
  have hgl := P.len_pos hg
  have hg0 : g.l ≠ [] := by
    intro z
    have : g.len = 0 := by unfold P.len; rw [z]; rfl
    omega
  have hp := div_pow (s := s) hK2 hab
  have hp1 := div_pow (s := s + 1) hK2 hab
  have hbm : b < 60000000 := by
    have : 1 * (b + 2) ≤ kk * (b + 2) := Nat.mul_le_mul_right _ (by omega)
    omega
  have t0 := over_enc (cf left (s + g.len - 1)) g.lead (Sm_mk h.ht hp1 _) (Sm_of hb hbm (g.len - 1)) (P.lead_ne hg) l k hl
  obtain ⟨env', h1, left', s5', s6', rfl, h3⟩ := for_rng (k := k) (N := g.len) (en := fun j => (.tuple [.int ((j : Nat) : Int), enc (g.c j)] : PyData))
    (f := fun x env k => (bindP (.tup (.cons (.one 5) (.cons (.one 6) .nil))) x env).bind fun en => denSs (Ph l) DnLib.G MW divIn en k)
    (fun j env => ∃ left' s5 s6, env = [da (encP f), da (encP g), ow left', ow (found.set s (cf left (s + g.len - 1) / g.lead)), da (.int (s : Int)), s5, s6] ∧ P.DivJ a b K f g s j left left' (found.set s (cf left (s + g.len - 1) / g.lead)))
    (fun j env hj ⟨left', s5, s6, he, h3⟩ => by
      subst he
      exact ⟨_, div_in hb hg hK hK2 hab hl hs hj h h3, _, _, _, rfl, h3.step h hb hg hs (by omega) hj⟩)
    [da (encP f), da (encP g), ow left, ow (found.set s (cf left (s + g.len - 1) / g.lead)), da (.int (s : Int)), s5, s6] ⟨left, s5, s6, rfl, P.DivJ.start h hb hg hs⟩
  refine ⟨left', _, s5', s6', ss_nx (ws_set (a := s) (j := (s : Int)) (env' := [da (encP f), da (encP g), ow left, ow (found.set s (cf left (s + g.len - 1) / g.lead)), da (.int (s : Int)), s5, s6]) (we_call (wa_two (we_idx rfl (we_bin (we_bin rfl (we_blt (wa_one rfl) (len_row g)) rfl) rfl rfl) (idx_i (i := s + g.len - 1) (by rw [h.ll]; omega) (by omega))) (we_idx rfl neg_one (idx_end hg0))) t0) rfl rfl ?_ ?_) (ss_nx (ws_for (wi_enum rfl) h1) rfl), P.DivJ.fin h hg hs h3⟩
  · rw [List.length_map, h.fl]
    exact ixD_nat hs
  · rw [map_set]; rfl
theorem max0 (a b : Nat) : bltD .max2 [.int 0, .int ((a : Int) - (b : Int) + 1)] = some (.int ((a + 1 - b : Nat) : Int)) := by
  show some (PyData.int (if ((a : Int) - (b : Int) + 1) > 0 then ((a : Int) - (b : Int) + 1) else 0)) = _
  congr 2
  split <;> omega
theorem wi_revr {Φ : Phi} {G : Glo} {e : CE} {env : DEnv} {k k1 : KS} {n : Nat} (he : den Φ G e true env k = some (.int (n : Int), k1)) (hn : n < 1000000) : denI Φ G (.revr e) env k = some (((List.range n).map fun i => (.int ((i : Nat) : Int) : PyData)).reverse, k1) := by
  simp only [denI, he, Option.bind_some, rng_ok hn, if_true, Int.toNat_natCast, rng_ints]
theorem parted_enc (f g q r : P) (h : P.Pt f g) (e : f = q * g + r) (hr : r.len < g.len) : At 5 24 [da (encP f), da (encP g)] (.tuple [encP q, encP r]) := At.of rfl rfl rfl fun l k hl => by
  obtain ⟨hg, a, b, kk, ha, hb, hk, hab, hfl, hgl⟩ := h
  obtain ⟨env', h1, left, found, s4, s5, s6, rfl, h3⟩ := for_down (k := k) (N := f.len + 1 - g.len) (en := fun j => (.int ((j : Nat) : Int) : PyData))
    (f := fun x env k => (bindP (.one 4) x env).bind fun en => denSs (Ph l) DnLib.G MW divBody en k)
    (fun s env => ∃ left found s4 s5 s6, env = [da (encP f), da (encP g), ow left, ow found, s4, s5, s6] ∧ P.DivI a b (f.len + 1 - g.len) f g s left found)
    (fun s env hs ⟨left, found, s4, s5, s6, he, h3⟩ => by
      subst he
      obtain ⟨left', found', s5', s6', e1, e2⟩ := div_out (k := k) (s5 := s5) (s6 := s6) hb hg rfl (by omega) hab hl hs h3
      exact ⟨_, e1, _, _, _, _, _, rfl, e2⟩)
    [da (encP f), da (encP g), ow f.l, ow (List.replicate (f.len + 1 - g.len) 0), .un, .un, .un] ⟨_, _, _, _, _, rfl, P.DivI.start ha hg⟩
  have e1 := trimmed_P found (by rw [h3.fl]; omega) l k (by omega)
  have e2 := trimmed_P left (by rw [h3.ll]; omega) l k (by omega)
  have ef := P.DivI.fin hg h3 e hr
  rw [ef.1] at e1
  rw [ef.2] at e2
  refine ⟨_, ss_nx (ws_par (env' := [da (encP f), da (encP g), ow f.l, ow (List.replicate (f.len + 1 - g.len) 0), .un, .un, .un]) (ds := [(true, .list (f.l.map enc)), (true, .list ((List.replicate (f.len + 1 - g.len) (0 : Rat)).map enc))]) (wo_two (d2 := .list ((List.replicate (f.len + 1 - g.len) (0 : Rat)).map enc)) (we_blt (wa_one rfl) rfl) (we_bin (we_lst (wa_one rfl)) (we_blt (wa_two rfl (we_bin (we_bin (we_blt (wa_one rfl) (len_row f)) (we_blt (wa_one rfl) (len_row g)) rfl) rfl rfl)) (max0 _ _)) ?_)) rfl)
    (ss_nx (ws_for (wi_revr (n := f.len + 1 - g.len) (we_blt (wa_one rfl) ?_) (by omega)) h1) (ss_rt (ws_ret (we_tup (wa_two (we_call (wa_one rfl) e1) (we_call (wa_one rfl) e2))))))⟩
  · rw [← zeros_enc]
    exact zeros_list _ (by omega) _ _ rfl
  · have := len_lst (List.replicate (f.len + 1 - g.len) 0)
    rw [List.length_replicate] at this
    exact this
end Dn
set_option Elab.async false
set_option linter.all false
set_option maxRecDepth 100000
/-! DnM5: common divisors, cofactors, answers (the package's). -/
namespace Dn
open PySem
namespace P
theorem l_nil {p : P} : p.l = [] ↔ p = 0 := ⟨fun h => eq_zero (by unfold len; rw [h]; rfl), fun h => by rw [h]; rfl⟩
instance : DecidableEq P := fun p q => if h : p.l = q.l then isTrue (by cases p; cases q; cases h; rfl) else isFalse (fun e => h (by rw [e]))
end P
theorem shaped_P (p : P) : SeqAt.shaped (encP p) = true := shaped_row p.l
theorem cmp_eqP (p q : P) : cmpD .eq (encP p) (encP q) = some (decide (p = q)) := by
  simp only [cmpD, shaped_P, Bool.and_self, if_true]
  have := eqv_row p.l q.l
  rw [show PyData.eqv (encP p) (encP q) = decide (p.l = q.l) from this]
  congr 1
  by_cases h : p = q
  · subst h; simp
  · have : p.l ≠ q.l := fun e => h (by cases p; cases q; cases e; rfl)
    simp [h, this]
theorem cmp_neP (p q : P) : cmpD .ne (encP p) (encP q) = some (!decide (p = q)) := by
  have := cmp_eqP p q
  simp only [cmpD, shaped_P, Bool.and_self, if_true] at this ⊢
  rw [Option.some.inj this]
theorem tup_nil {Φ : Phi} {G : Glo} {m : Bool} {env : DEnv} {k : KS} : den Φ G (.tup .nil) m env k = some (encP 0, k) := rfl
theorem quotient_enc (f g q r : P) (h : P.Pt f g) (e : f = q * g + r) (hr : r.len < g.len) : At 6 25 [da (encP f), da (encP g)] (encP q) := At.of rfl rfl rfl fun l k hl =>
  ⟨_, ss_rt (ws_ret (we_idx (we_call (wa_two rfl rfl) (parted_enc f g q r h e hr l k hl)) rfl rfl))⟩
theorem divide_enc (f g q r : P) (h : P.Pt f g) (e : f = q * g + r) (hr : r.len < g.len) : At 6 26 [da (encP g), da (encP f)] (.bool (decide (r = 0))) := At.of rfl rfl rfl fun l k hl =>
  ⟨_, ss_rt (ws_ret (we_cmp (we_idx (we_call (wa_two rfl rfl) (parted_enc f g q r h e hr l k hl)) rfl rfl) tup_nil (cmp_eqP r 0)))⟩
/-- a comprehension with a test -/
theorem comp_filter {f : PyData → KS → Option (Option PyData × KS)} {k : KS} (t : Rat → Bool) : ∀ ys : List Rat, (∀ y ∈ ys, f (enc y) k = some (if t y then some (enc y) else none, k)) → compD f (ys.map enc) k = some ((ys.filter t).map enc, k)
  | [], _ => rfl
  | y :: ys, h => by
    simp only [List.map_cons, compD, h y (List.mem_cons_self ..), Option.bind_some, comp_filter t ys fun z hz => h z (List.mem_cons_of_mem _ hz), Option.map_some, List.filter_cons]
    by_cases ht : t y = true
    · rw [if_pos ht, if_pos ht]; rfl
    · rw [if_neg ht, if_neg ht]
theorem cmp_neE (p q : Rat) : cmpD .ne (enc p) (enc q) = some (!decide (p = q)) := by
  simp only [cmpD, shaped_enc, Bool.and_self, if_true, eqv_enc]
theorem cmp_eqE (p q : Rat) : cmpD .eq (enc p) (enc q) = some (decide (p = q)) := by
  simp only [cmpD, shaped_enc, Bool.and_self, if_true, eqv_enc]
theorem low_filter : ∀ f : List Rat, P.lowL f ≠ 0 → ∃ r, f.filter (fun y => !decide (y = 0)) = P.lowL f :: r
  | [], h => absurd rfl h
  | a :: f, h => by
    unfold P.lowL at h ⊢
    by_cases ha : a = 0
    · rw [if_pos ha] at h ⊢
      obtain ⟨r, hr⟩ := low_filter f h
      exact ⟨r, by rw [List.filter_cons, if_neg (by simp [ha]), hr]⟩
    · rw [if_neg ha]
      exact ⟨_, by rw [List.filter_cons, if_pos (by simp [ha])]⟩
theorem first_enc (p : P) (h0 : p ≠ 0) (hl : p.len < 10000) : At 1 27 [da (encP p)] (enc p.low) := At.of rfl rfl rfl fun l k hn => by
  obtain ⟨r, hr⟩ := low_filter p.l (P.low_ne h0)
  have hc : den (Ph l) DnLib.G (.comp (.one 1) [1] (.seq (.var 0)) (.cmp .ne (.var 1) (.glo 0)) (.var 1)) true [da (encP p), .un] k = some (.list ((p.l.filter (fun y => !decide (y = 0))).map enc), k) := by
    have hi : denI (Ph l) DnLib.G (.seq (.var 0)) [da (encP p), .un] k = some (p.l.map enc, k) := rfl
    simp only [den, hi, Option.bind_some, List.length_map, len_ok (show p.l.length < 10000 from hl), Bool.not_true, Bool.false_eq_true, if_false]
    rw [comp_filter (fun y => !decide (y = 0)) p.l fun y _ => ?_]
    · rfl
    · simp only [wipeD, bindP, envSet, List.set_cons_succ, List.set_cons_zero, List.length_cons, List.length_nil, Nat.zero_add, Nat.reduceAdd, Nat.reduceLT, if_true, Option.bind_some, List.getElem?_cons_succ, List.getElem?_cons_zero, Bool.false_and, Bool.false_eq_true, if_false, glo_zero, Option.map_some, cmp_neE, Bool.and_true, Bool.not_true, Bool.and_false]
      by_cases hy : y = 0
      · simp [hy]
      · simp [hy]
  exact ⟨_, ss_rt (ws_ret (we_idx hc rfl (by rw [hr]; exact idx_lst (f := P.lowL p.l :: r) (i := 0) (by simp))))⟩

/-- Euclid's way can be gone -/
def EuOk (p q : P) : Prop := (p ≠ 0 ∨ q ≠ 0) ∧ ∃ r e t, P.Eu p q 1 0 r e t ∧ t ≤ 2000 ∧ P.Ht 12000000 r ∧ P.Ht 12000000 e ∧ r.len ≤ 1000 ∧ e.len ≤ 1000
theorem EuOk_of {a L : Nat} {p q : P} (hp : P.Ht a p) (hq : P.Ht a q) (h0 : p ≠ 0 ∨ q ≠ 0) (lp : p.len ≤ L) (lq : q.len ≤ L) (hL : L ≤ 300) (hM : 3 ^ L * (2 * a + 3) ≤ 12000000) : EuOk p q := by
  have p1 : 1 ≤ 3 ^ L := Nat.pow_pos (by omega)
  have ha : 2 * a + 3 ≤ 12000000 := by
    have := Nat.mul_le_mul_right (2 * a + 3) p1
    omega
  have l1 : (1 : P).len ≤ 1 := P.len_C 1
  refine ⟨h0, ?_⟩
  by_cases hq0 : q = 0
  · subst hq0
    refine ⟨p, 1, 0, .done, by omega, P.Ht_up hp (by omega), P.Ht_up (P.HtP_one hp).r (by omega), by omega, by omega⟩
  · by_cases hlt : q.len < p.len
    · obtain ⟨r, e, t, h1, h2, h3, h4, h5⟩ := P.eu_ex L p q 1 0 a (P.HtP_one hp) (P.HtP_self hq) hlt lp (by omega) (by omega) (by rw [P.len_zero]; omega) (by omega) (by rw [P.len_zero]; omega) (by
        have := Nat.mul_le_mul_left (3 ^ L) (show a + 2 ≤ 2 * a + 3 by omega)
        omega)
      have hle : 3 ^ L * (a + 2) ≤ 12000000 := by
        have := Nat.mul_le_mul_left (3 ^ L) (show a + 2 ≤ 2 * a + 3 by omega)
        omega
      exact ⟨r, e, t, h1, by omega, P.Ht_up h3.l hle, P.Ht_up h3.r hle, by omega, by omega⟩
    · obtain ⟨q1, r1, a1, a2, a3, a4⟩ := P.HtP_div (k := 1) hq0 (P.HtP_one hp) (P.HtP_self hq) (by omega)
      rw [Nat.one_mul] at a3 a4
      have e1 : (1 : P) - q1 * 0 = 1 := by grind
      rw [e1] at a3
      obtain ⟨r, e, t, h1, h2, h3, h4, h5⟩ := P.eu_ex L q r1 0 1 (a + (a + 1)) (P.HtP_up (P.HtP_self hq) (by omega)) a3 a2 lq (by omega) (by rw [P.len_zero]; omega) (by omega) (by rw [P.len_zero]; omega) (by omega) (by rw [show a + (a + 1) + 2 = 2 * a + 3 by omega]; exact hM)
      have hq1 : q1.len ≤ 1 := by
        by_cases hz : q1 = 0
        · rw [hz, P.len_zero]; omega
        · have h3 := P.len_mul hz hq0
          have h4 := P.len_sub p r1
          rw [show p - r1 = q1 * q by grind] at h4
          omega
      have hqz : (q1 * (0 : P)).len = 0 := by rw [show q1 * (0 : P) = 0 by grind]; rfl
      have hE : P.Eu p q 1 0 r e (t + 1) := .step hq0 ⟨hq0, a, a, 1, hp, hq, by omega, by omega, by omega, by omega⟩ a1 a2 ⟨_, 0, a4, P.Ht_zero 0, by omega, by omega, by rw [P.len_zero]; omega⟩
        ⟨a, (P.HtP_one hp).r, by rw [show q1 * (0 : P) = 0 by grind]; exact P.Ht_zero a, by omega, by omega, by omega⟩ (by rw [e1]; exact h1)
      have hle : 3 ^ L * (a + (a + 1) + 2) ≤ 12000000 := by rw [show a + (a + 1) + 2 = 2 * a + 3 by omega]; exact hM
      exact ⟨r, e, t + 1, hE, by omega, P.Ht_up h3.l hle, P.Ht_up h3.r hle, by omega, by omega⟩

def divTest : CE := .cmp .ne (.var 1) (.tup .nil)
def divrBody : CSs := (.cons (.par [0, 1] (.cons (.var 1) (.cons (.idx (.call 24 (.cons (.var 0) (.cons (.var 1) .nil))) (.int 1)) .nil))) .nil)
theorem divisor_loop {l : Nat} {k : KS} (hl : 5 ≤ l) {one two e f r e' : P} {t : Nat} (h : P.Eu one two e f r e' t) : ∀ n, t < n →
    whlD (fun env k => den (Ph l) DnLib.G divTest true env k) (fun env k => denSs (Ph l) DnLib.G MW divrBody env k) n [da (encP one), da (encP two)] k = some (.nx [da (encP r), da (encP 0)] k) := by
  induction h with
  | @done one e f =>
    intro n hn
    obtain ⟨m, rfl⟩ : ∃ m, n = m + 1 := ⟨n - 1, by omega⟩
    have e1 : den (Ph l) DnLib.G divTest true [da (encP one), da (encP 0)] k = some (.bool false, k) := we_cmp rfl tup_nil (cmp_neP 0 0)
    simp only [whlD, e1, Option.bind_some]
  | @step one two e f q r one' e' t h0 hp e1 hr _ _ _ ih =>
    intro n hn
    obtain ⟨m, rfl⟩ : ∃ m, n = m + 1 := ⟨n - 1, by omega⟩
    have e2 : den (Ph l) DnLib.G divTest true [da (encP one), da (encP two)] k = some (.bool true, k) := we_cmp rfl tup_nil (by rw [cmp_neP, decide_eq_false h0]; rfl)
    have e3 : denSs (Ph l) DnLib.G MW divrBody [da (encP one), da (encP two)] k = some (.nx [da (encP two), da (encP r)] k) :=
      ss_nx (ws_par (wo_two rfl (we_idx (we_call (wa_two rfl rfl) (parted_enc one two q r hp e1 hr l k hl)) rfl rfl)) rfl) rfl
    simp only [whlD, e2, e3, Option.bind_some]
    exact ih m (by omega)
theorem ws_whl {Φ : Phi} {G : Glo} {n : Nat} {c : CE} {b : CSs} {env : DEnv} {k : KS} {R : Option Res} (h : whlD (fun env k => den Φ G c true env k) (fun env k => denSs Φ G n b env k) n (freeze env (leakE c true)) k = R) : denS Φ G n (.whl c b) env k = R := h
theorem Sm_one : Sm 1 := by unfold Sm; decide
theorem IsG_of {one two e f r e' : P} {t : Nat} (h : P.Eu one two e f r e' t) (h0 : r ≠ 0) : P.IsG (P.C (1 / r.low) * r) one two := by
  obtain ⟨⟨u, v, h1⟩, ⟨a, h2⟩, ⟨b, h3⟩⟩ := h.ideal
  have hl := P.low_ne h0
  have hc : P.C r.low * P.C (1 / r.low) = 1 := by rw [← P.C_mulC, ← P.C_one]; congr 1; grind
  refine ⟨⟨P.C (1 / r.low) * u, P.C (1 / r.low) * v, by rw [h1]; grind⟩, ⟨a * P.C r.low, by grind⟩, ⟨b * P.C r.low, by grind⟩, ?_⟩
  rw [P.low_C (by grind)]; grind
theorem Eu_ne {one two e f r e' : P} {t : Nat} (h : P.Eu one two e f r e' t) (h0 : one ≠ 0 ∨ two ≠ 0) : r ≠ 0 := by
  obtain ⟨_, ⟨a, h2⟩, ⟨b, h3⟩⟩ := h.ideal
  intro z
  subst z
  rcases h0 with h0 | h0
  · apply h0; grind
  · apply h0; grind
theorem low_Sm {b : Nat} {p : P} (h : P.Ht b p) (hb : b < 60000000) : Sm p.low := by
  have : ∃ i, p.low = p.c i := by
    unfold P.low P.c
    have : ∀ f : List Rat, ∃ i, P.lowL f = cf f i := by
      intro f
      induction f with
      | nil => exact ⟨0, rfl⟩
      | cons a f ih =>
        obtain ⟨i, hi⟩ := ih
        unfold P.lowL
        by_cases ha : a = 0
        · rw [if_pos ha]; exact ⟨i + 1, hi⟩
        · rw [if_neg ha]; exact ⟨0, rfl⟩
    exact this _
  obtain ⟨i, e⟩ := this
  rw [e]; exact Sm_of h hb i
/-- the number 1 over another one that is small enough -/
theorem Sm_inv {x : Rat} (h : Sm x) (h0 : x ≠ 0) : Sm (1 / x) := by
  rw [show 1 / x = x⁻¹ by grind]
  unfold Sm at h ⊢
  have hn : x.num ≠ 0 := fun z => h0 (Rat.num_eq_zero.mp z)
  rw [Rat.num_inv, Rat.den_inv, if_neg hn]
  refine ⟨?_, h.1⟩
  rw [Int.natAbs_mul, Int.natAbs_sign_of_ne_zero hn, Nat.one_mul, Int.natAbs_natCast]
  exact h.2
theorem divisor_enc (p q g : P) (h : EuOk p q) (hg : P.IsG g p q) : At 6 28 [da (encP p), da (encP q)] (encP g) := At.of rfl rfl rfl fun l k hl => by
  obtain ⟨h0, r, e, t, h1, h2, h3, h4, h5, h6⟩ := h
  have hr := Eu_ne h1 h0
  have eg := P.IsG_unique hg (IsG_of h1 hr)
  have hl1 := P.low_ne hr
  have hs := low_Sm h3 (by omega)
  have t1 := over_enc 1 r.low Sm_one hs hl1 l k (by omega)
  have t2 := scaled_enc (1 / r.low) r (Sm_inv hs hl1) h3 (by omega) (by omega) l k hl
  rw [← eg] at t2
  exact ⟨_, ss_nx (ws_whl (divisor_loop hl h1 MW (by show t < 10000; omega))) (ss_rt (ws_ret (we_call (wa_two (we_call (wa_two rfl (we_call (wa_one rfl) (first_enc r hr (by omega) l k (by omega)))) t1) rfl) t2)))⟩
end Dn
set_option Elab.async false
set_option linter.all false
set_option maxRecDepth 100000
/-! DnM6: cofactors, answers of rows (the package's). -/
namespace Dn
open PySem
namespace P
/-- sized: up to 2 ^ b, at most L numbers -/
def Sg (b L : Nat) (p : P) : Prop := Ht b p ∧ p.len ≤ L
theorem Sg.up {b L b' L' : Nat} {p : P} (h : Sg b L p) (hb : b ≤ b') (hL : L ≤ L') : Sg b' L' p := ⟨Ht_up h.1 hb, by have := h.2; omega⟩
theorem Sg.mul {b1 L1 b2 L2 : Nat} {p q : P} (hp : Sg b1 L1 p) (hq : Sg b2 L2 q) : Sg (b1 + b2) (L1 + L2 - 1) (p * q) := ⟨Ht_mul hp.1 hq.1, by
  have := len_mul_le p q
  have := hp.2
  have := hq.2
  omega⟩
theorem Sg.add {b1 L1 b2 L2 : Nat} {p q : P} (hp : Sg b1 L1 p) (hq : Sg b2 L2 q) : Sg (b1 + b2 + 1) (max L1 L2) (p + q) := ⟨Ht_add hp.1 hq.1, by
  have := len_add p q
  have := hp.2
  have := hq.2
  omega⟩
theorem Sg.sub {b1 L1 b2 L2 : Nat} {p q : P} (hp : Sg b1 L1 p) (hq : Sg b2 L2 q) : Sg (b1 + b2 + 1) (max L1 L2) (p - q) := ⟨Ht_sub hp.1 hq.1, by
  have := len_sub p q
  have := hp.2
  have := hq.2
  omega⟩
theorem Sg.ml {b1 L1 b2 L2 : Nat} {p q : P} (hp : Sg b1 L1 p) (hq : Sg b2 L2 q) (h : b1 + b2 ≤ 50000000) (h1 : L1 ≤ 2000) (h2 : L2 ≤ 2000) : Ml p q :=
  ⟨b1, b2, hp.1, hq.1, h, by have := hp.2; omega, by have := hq.2; omega⟩
theorem Sg.ad {b1 L1 b2 L2 : Nat} {p q : P} (hp : Sg b1 L1 p) (hq : Sg b2 L2 q) (h : b1 + b2 ≤ 50000000) (h1 : L1 ≤ 2000) (h2 : L2 ≤ 2000) : Ad p q :=
  ⟨b1 + b2, Ht_up hp.1 (by omega), Ht_up hq.1 (by omega), h, by have := hp.2; omega, by have := hq.2; omega⟩
theorem Sg.pt {b1 L1 b2 L2 : Nat} {p q : P} (hp : Sg b1 L1 p) (hq : Sg b2 L2 q) (hq0 : q ≠ 0) (h : b1 + L1 * (b2 + 2) ≤ 50000000) (h1 : L1 ≤ 2000) (h2 : L2 ≤ 2000) : Pt p q :=
  ⟨hq0, b1, b2, L1, hp.1, hq.1, by have := hp.2; have := len_pos hq0; omega, h, by have := hp.2; omega, by have := hq.2; omega⟩
theorem Sg.neg {b L : Nat} {p : P} (h : Sg b L p) : Sg b L (-p) := ⟨Ht_neg h.1, by have := len_neg p; have := h.2; omega⟩
theorem Sg.zero (b L : Nat) : Sg b L 0 := ⟨Ht_zero b, by rw [len_zero]; omega⟩
theorem Ht_C {b : Nat} {x : Rat} (h1 : x.num.natAbs ≤ 2 ^ b) (h2 : x.den ≤ 2 ^ b) : Ht b (C x) := by
  have hx : x * (x.den : Rat) = (x.num : Rat) := by
    have e := Rat.num_divInt_den x
    rw [Rat.divInt_eq_div] at e
    have hd : ((x.den : Int) : Rat) ≠ 0 := by
      intro z
      have : (x.den : Int) = 0 := Rat.intCast_inj.mp (by rw [z]; rfl)
      exact x.den_nz (by omega)
    show x * ((x.den : Int) : Rat) = _
    have e2 : x = (x.num : Rat) / ((x.den : Int) : Rat) := e.symm
    rw [Rat.div_def] at e2
    have : (x.num : Rat) * ((x.den : Int) : Rat)⁻¹ * ((x.den : Int) : Rat) = x.num := by rw [Rat.mul_assoc, Rat.inv_mul_cancel _ hd, Rat.mul_one]
    rw [← e2] at this
    exact this
  have h3 : (1 : Rat) ≤ ((x.den : Nat) : Rat) := by
    have : ((1 : Nat) : Rat) ≤ ((x.den : Nat) : Rat) := Rat.natCast_le_natCast.mpr (Nat.pos_of_ne_zero x.den_nz)
    exact this
  refine ⟨(x.den : Rat), zI_nat _, h3, Rat.natCast_le_natCast.mpr h2, I_C ⟨x.num, hx⟩, ?_⟩
  rw [n1_C]
  have e : ab x * (x.den : Rat) = ((x.num.natAbs : Nat) : Rat) := by
    have : ab (x.den : Rat) = (x.den : Rat) := ab_of_nn (by grind)
    rw [← this, ← ab_mul, hx]
    unfold ab
    show _ = (((x.num.natAbs : Nat) : Int) : Rat)
    by_cases hz0 : x.num < 0
    · rw [if_pos (by rw [← Rat.intCast_zero]; exact Rat.intCast_lt_intCast.mpr hz0), ← Rat.intCast_neg]
      congr 1; omega
    · rw [if_neg (by rw [← Rat.intCast_zero, Rat.intCast_lt_intCast]; exact hz0)]
      congr 1; omega
  rw [e]
  exact Rat.natCast_le_natCast.mpr h1
theorem Ht_Cinv {b : Nat} {x : Rat} (h0 : x ≠ 0) (h1 : x.num.natAbs ≤ 2 ^ b) (h2 : x.den ≤ 2 ^ b) : Ht b (C (1 / x)) := by
  rw [show 1 / x = x⁻¹ by grind]
  have hn : x.num ≠ 0 := fun z => h0 (Rat.num_eq_zero.mp z)
  refine Ht_C ?_ ?_
  · rw [Rat.num_inv, Int.natAbs_mul, Int.natAbs_sign_of_ne_zero hn, Nat.one_mul, Int.natAbs_natCast]; exact h2
  · rw [Rat.den_inv, if_neg hn]; exact h1
theorem low_ex (p : P) : ∃ i, p.low = p.c i := by
  unfold low c
  have : ∀ f : List Rat, ∃ i, lowL f = cf f i := by
    intro f
    induction f with
    | nil => exact ⟨0, rfl⟩
    | cons a f ih =>
      obtain ⟨i, hi⟩ := ih
      unfold lowL
      by_cases ha : a = 0
      · rw [if_pos ha]; exact ⟨i + 1, hi⟩
      · rw [if_neg ha]; exact ⟨0, rfl⟩
  exact this _
theorem Ht_lowinv {b : Nat} {p : P} (h : Ht b p) (h0 : p ≠ 0) : Ht b (C (1 / p.low)) := by
  obtain ⟨i, e⟩ := low_ex p
  have hl := low_ne h0
  rw [e] at hl ⊢
  have := Ht_num h i
  exact Ht_Cinv hl this.1 this.2
theorem l_one : (1 : P).l = [1] := by
  show trim [((1 : Nat) : Rat)] = [1]
  have e : ((1 : Nat) : Rat) = 1 := rfl
  rw [e]
  have h : (1 : Rat) ≠ 0 := by grind
  simp [trim, h]
theorem len_one : (1 : P).len = 1 := by unfold len; rw [l_one]; rfl
theorem Ht_one (b : Nat) : Ht b 1 := by rw [← C_one]; exact Ht_up (Ht_C (b := 0) (by decide) (by decide)) (by omega)
theorem Sg.one (b L : Nat) (h : 1 ≤ L) : Sg b L 1 := ⟨Ht_one b, by rw [len_one]; exact h⟩
theorem one_ne : (1 : P) ≠ 0 := by intro z; have := len_one; rw [z, len_zero] at this; omega
theorem IsG_one {p q : P} (h : ∃ e f, e * p + f * q = 1) : IsG 1 p q := by
  obtain ⟨e, f, h⟩ := h
  refine ⟨⟨e, f, h.symm⟩, ⟨p, by grind⟩, ⟨q, by grind⟩, ?_⟩
  unfold low; rw [l_one]
  have h : (1 : Rat) ≠ 0 := by grind
  simp [lowL, h]
/-- base helms -/
structure Base (n m p w : P) : Prop where
  eq : m * w + n * p = 1
  lt : p.len < m.len
theorem Base.m0 {n m p w : P} (h : Base n m p w) : m ≠ 0 := by
  intro z
  have := h.lt
  rw [z, len_zero] at this; omega
theorem Base.uniq {n m p w p' w' : P} (h : Base n m p w) (h' : Base n m p' w') : p = p' ∧ w = w' := by
  have e : (w' * p - w * p') * m = p - p' := by
    have a := h.eq
    have b := h'.eq
    grind
  have hz : w' * p - w * p' = 0 := by
    apply Classical.byContradiction
    intro hz
    have l1 := len_mul hz h.m0
    rw [e] at l1
    have l2 := len_sub p p'
    have l3 := h.lt
    have l4 := h'.lt
    have l5 := len_pos hz
    omega
  have hp : p = p' := by rw [hz] at e; grind
  subst hp
  refine ⟨rfl, cancel h.m0 ?_⟩
  have a := h.eq
  have b := h'.eq
  grind
end P
open P (Sg)
theorem glo_unit : DnLib.G 2 = some (encP 1) := by
  show some _ = some (encR (1 : P).l)
  rw [P.l_one]; rfl
def cofTest : CE := .cmp .ne (.idx (.var 3) (.int 0)) (.tup .nil)
def cofBody : CSs := (.cons (.unp (.cons (.one 4) (.cons (.one 5) .nil)) (.call 24 (.cons (.idx (.var 2) (.int 0)) (.cons (.idx (.var 3) (.int 0)) .nil)))) (.cons (.par [2, 3] (.cons (.var 3) (.cons (.tup (.cons (.var 5) (.cons (.call 22 (.cons (.idx (.var 2) (.int 1)) (.cons (.call 23 (.cons (.var 4) (.cons (.idx (.var 3) (.int 1)) .nil))) .nil))) .nil))) .nil))) .nil))
abbrev pr (p q : P) : PyData := .tuple [encP p, encP q]
theorem idx0 {p q : P} : idxD (pr p q) (.int 0) = some (encP p) := rfl
theorem idx1 {p q : P} : idxD (pr p q) (.int 1) = some (encP q) := rfl
theorem cof_loop {l : Nat} {k : KS} (hl : 5 ≤ l) {n m one two e f r e' : P} {t : Nat} (h : P.Eu one two e f r e' t) : ∀ N (s4 s5 s6 s7 s8 : Sl), t < N → ∃ x y a4 a5 a6 a7 a8,
    whlD (fun env k => den (Ph l) DnLib.G cofTest true env k) (fun env k => denSs (Ph l) DnLib.G MW cofBody env k) N [da (encP n), da (encP m), da (pr one e), da (pr two f), s4, s5, s6, s7, s8] k = some (.nx [da (encP n), da (encP m), da (pr r e'), da (pr x y), a4, a5, a6, a7, a8] k) := by
  induction h with
  | @done one e f =>
    intro N s4 s5 s6 s7 s8 hN
    obtain ⟨M, rfl⟩ : ∃ M, N = M + 1 := ⟨N - 1, by omega⟩
    have e1 : den (Ph l) DnLib.G cofTest true [da (encP n), da (encP m), da (pr one e), da (pr 0 f), s4, s5, s6, s7, s8] k = some (.bool false, k) := we_cmp (we_idx rfl rfl idx0) tup_nil (cmp_neP 0 0)
    exact ⟨0, f, s4, s5, s6, s7, s8, by simp only [whlD, e1, Option.bind_some]⟩
  | @step one two e f q r one' e' t h0 hp e1 hr hm had _ ih =>
    intro N s4 s5 s6 s7 s8 hN
    obtain ⟨M, rfl⟩ : ∃ M, N = M + 1 := ⟨N - 1, by omega⟩
    have e2 : den (Ph l) DnLib.G cofTest true [da (encP n), da (encP m), da (pr one e), da (pr two f), s4, s5, s6, s7, s8] k = some (.bool true, k) := we_cmp (we_idx rfl rfl idx0) tup_nil (by rw [cmp_neP, decide_eq_false h0]; rfl)
    have e3 : denSs (Ph l) DnLib.G MW cofBody [da (encP n), da (encP m), da (pr one e), da (pr two f), s4, s5, s6, s7, s8] k = some (.nx [da (encP n), da (encP m), da (pr two f), da (pr r (e - q * f)), da (encP q), da (encP r), s6, s7, s8] k) :=
      ss_nx (ws_unp (env' := [da (encP n), da (encP m), da (pr one e), da (pr two f), da (encP q), da (encP r), s6, s7, s8]) (we_call (wa_two (we_idx rfl rfl idx0) (we_idx rfl rfl idx0)) (parted_enc one two q r hp e1 hr l k hl)) rfl)
        (ss_nx (ws_par (env' := [da (encP n), da (encP m), da (pr two f), da (pr r (e - q * f)), da (encP q), da (encP r), s6, s7, s8]) (wo_two rfl (we_tup (wa_two rfl (we_call (wa_two (we_idx rfl rfl idx1) (we_call (wa_two rfl (we_idx rfl rfl idx1)) (multiplied_enc q f hm l k hl))) (lessened_enc e (q * f) had l k hl))))) rfl) rfl)
    obtain ⟨x, y, a4, a5, a6, a7, a8, e4⟩ := ih M _ _ _ _ _ (by omega : t < M)
    exact ⟨x, y, a4, a5, a6, a7, a8, by simp only [whlD, e2, e3, Option.bind_some]; exact e4⟩
theorem cofactors_enc (n m p w : P) (h : EuOk n m) (hb : P.Base n m p w) (sn : Sg 2000 60 n) (sm : Sg 2000 60 m) (sp : Sg 2000 60 p) : At 7 29 [da (encP n), da (encP m)] (pr p w) := At.of rfl rfl rfl fun l k hl => by
  obtain ⟨h0, r, e, t, h1, h2, h3, h4, h5, h6⟩ := h
  have hr := Eu_ne h1 h0
  have eg := P.IsG_unique (P.IsG_one ⟨p, w, by have := hb.eq; grind⟩) (IsG_of h1 hr)
  have hl1 := P.low_ne hr
  have hs := low_Sm h3 (by omega)
  have t1 := over_enc 1 r.low Sm_one hs hl1 l k (by omega)
  have t2 := scaled_enc (1 / r.low) r (Sm_inv hs hl1) h3 (by omega) (by omega) l k (by omega)
  rw [← eg] at t2
  have t3 := scaled_enc (1 / r.low) e (Sm_inv hs hl1) h4 (by omega) (by omega) l k (by omega)
  obtain ⟨c, hc⟩ := h1.cof n m ⟨0, by grind⟩ ⟨1, by grind⟩
  have s0 : Sg 24000000 1000 (P.C (1 / r.low) * e) := ⟨P.Ht_up (P.Ht_mul (P.Ht_lowinv h3 hr) h4) (by omega), by
    have := P.len_mul_le (P.C (1 / r.low)) e
    have := P.len_C (1 / r.low)
    omega⟩
  generalize hE : P.C (1 / r.low) * e = E at s0 t3
  have e1 : n * E + (P.C (1 / r.low) * c) * m = 1 := by rw [eg, hc, ← hE]; grind
  have e2 : E = (w * E - (P.C (1 / r.low) * c) * p) * m + p := by
    have := hb.eq
    grind
  have t4 := parted_enc E m _ p (s0.pt sm hb.m0 (by omega) (by omega) (by omega)) e2 hb.lt l k (by omega)
  have t5 := quotient_enc m 1 m 0 (sm.pt (Sg.one 0 1 (by omega)) P.one_ne (by omega) (by omega) (by omega)) (by grind) (by rw [P.len_zero, P.len_one]; omega) l k (by omega)
  have t6 := multiplied_enc p n (sp.ml sn (by omega) (by omega) (by omega)) l k (by omega)
  have t7 := lessened_enc 1 (p * n) ((Sg.one 0 1 (by omega)).ad (sp.mul sn) (by omega) (by omega) (by omega)) l k (by omega)
  have t8 := quotient_enc (1 - p * n) m w 0 (((Sg.one 0 1 (by omega)).sub (sp.mul sn)).pt sm hb.m0 (by omega) (by omega) (by omega)) (by have := hb.eq; grind) (by rw [P.len_zero]; exact P.len_pos hb.m0) l k (by omega)
  obtain ⟨x, y, s4, s5, s6, s7, s8, e9⟩ := cof_loop (k := k) (n := n) (m := m) (show 5 ≤ l by omega) h1 MW .un .un .un .un .un (by show t < 10000; omega)
  have g2 : den (Ph l) DnLib.G (.glo 2) false [da (encP n), da (encP m), .un, .un, .un, .un, .un, .un, .un] k = some (encP 1, k) := by simp only [den, glo_unit, Option.map_some]
  have tm : den (Ph l) DnLib.G (.cmp .eq (.var 1) (.tup .nil)) true [da (encP n), da (encP m), da (pr r e), da (pr x y), s4, s5, da (enc (1 / r.low)), da (encP 1), da (encP E)] k = some (.bool false, k) := we_cmp rfl tup_nil (by rw [cmp_eqP, decide_eq_false hb.m0])
  exact ⟨_, ss_nx (ws_par (env' := [da (encP n), da (encP m), da (pr n 1), da (pr m 0), .un, .un, .un, .un, .un]) (wo_two (we_tup (wa_two rfl g2)) (we_tup (wa_two rfl tup_nil))) rfl) (ss_nx (ws_whl e9)
    (ss_nx (ws_asg (env' := [da (encP n), da (encP m), da (pr r e), da (pr x y), s4, s5, da (enc (1 / r.low)), s7, s8]) (we_call (wa_two rfl (we_call (wa_one (we_idx rfl rfl idx0)) (first_enc r hr (by omega) l k (by omega)))) t1) rfl)
    (ss_nx (ws_par (env' := [da (encP n), da (encP m), da (pr r e), da (pr x y), s4, s5, da (enc (1 / r.low)), da (encP 1), da (encP E)]) (wo_two (we_call (wa_two rfl (we_idx rfl rfl idx0)) t2) (we_call (wa_two rfl (we_idx rfl rfl idx1)) t3)) rfl)
    (ss_nx (ws_ifF tm rfl)
    (ss_nx (ws_asg (env' := [da (encP n), da (encP m), da (pr r e), da (pr x y), s4, s5, da (enc (1 / r.low)), da (encP 1), da (encP p)]) (we_idx (we_call (wa_two rfl (we_call (wa_two rfl rfl) t5)) t4) rfl rfl) rfl)
    (ss_rt (ws_ret (we_tup (wa_two rfl (we_call (wa_two (we_call (wa_two rfl (we_call (wa_two rfl rfl) t6)) t7) rfl) t8))))))))))⟩
end Dn
set_option Elab.async false
set_option linter.all false
set_option maxRecDepth 100000
/-! DnM7: what is asked of the package: forms, machines, helms. -/
namespace Dn
open PySem
open P (Sg)
theorem w_g0 {Φ : Phi} {m : Bool} {env : DEnv} {k : KS} : den Φ DnLib.G (.glo 0) m env k = some (enc 0, k) := rfl
theorem w_g1 {Φ : Phi} {m : Bool} {env : DEnv} {k : KS} : den Φ DnLib.G (.glo 1) m env k = some (enc 1, k) := rfl
theorem w_g2 {Φ : Phi} {m : Bool} {env : DEnv} {k : KS} : den Φ DnLib.G (.glo 2) m env k = some (encP 1, k) := by simp only [den, glo_unit, Option.map_some]
theorem divisor_enc1 (q : Rat) : At 1 4 [da (enc q)] (.int 1) := by
  have := divisor_pair q.num q.den
  rw [Int.natAbs_natCast, q.reduced] at this
  exact this
theorem wholes_enc (q : Rat) : At 2 3 [da (enc q), da (.int 2)] (.bool true) := At.of rfl rfl rfl fun l k hn => by
  have hc : den (Ph l) DnLib.G (.comp (.one 2) [2] (.seq (.var 0)) (.bl true) (.call 1 (.cons (.var 2) .nil))) true [da (enc q), da (.int 2), .un] k = some (.list [.bool true, .bool true], k) :=
    den_comp (α := PyData) (en := id) (g := fun _ => .bool true) (ys := [.int q.num, .int q.den]) rfl (by simp) fun y hy => ⟨[da (enc q), da (.int 2), da y], rfl, we_call (wa_one rfl) (by
      rcases List.mem_cons.mp hy with rfl | hy
      · exact is_whole _ l k hn
      · rcases List.mem_cons.mp hy with rfl | hy
        · exact is_whole _ l k hn
        · cases hy)⟩
  exact ⟨_, ss_rt (ws_ret (we_andT (we_blt (wa_one rfl) rfl) (we_andT (we_cmp (d := true) (we_blt (wa_one rfl) rfl) rfl rfl) (we_blt (wa_one hc) rfl))))⟩
theorem is_ratio_enc (q : Rat) : At 3 7 [da (enc q)] (.bool true) := At.of rfl rfl rfl fun l k hn => by
  have hd : (decide ((0 : Int) < (q.den : Int))) = true := decide_eq_true (by have := q.den_nz; omega)
  exact ⟨_, ss_rt (ws_ret (we_andT (we_call (wa_two rfl rfl) (wholes_enc q l k hn)) (we_andT (we_cmp (d := true) (we_idx (d := .int q.den) rfl rfl rfl) rfl (by show some (decide _) = _; rw [hd])) (we_cmp (d := true) (we_call (wa_one rfl) (divisor_enc1 q l k (by omega))) rfl rfl))))⟩
theorem boolsD_true : ∀ n : Nat, boolsD (List.replicate n (.bool true)) = some (List.replicate n true)
  | 0 => rfl
  | n + 1 => by rw [List.replicate_succ, boolsD, boolsD_true n]; rfl
theorem is_row_enc (p : P) (hl : p.len < 10000) : At 4 38 [da (encP p)] (.bool true) := At.of rfl rfl rfl fun l k hn => by
  have hc : den (Ph l) DnLib.G (.comp (.one 1) [1] (.seq (.var 0)) (.bl true) (.call 7 (.cons (.var 1) .nil))) true [da (encP p), .un] k = some (.list (p.l.map fun _ => .bool true), k) :=
    den_comp (en := enc) (ys := p.l) rfl hl fun y hy => ⟨[da (encP p), da (enc y)], rfl, we_call (wa_one rfl) (is_ratio_enc y l k hn)⟩
  have ha : bltD .all [.list (p.l.map fun _ => .bool true)] = some (.bool true) := by
    rw [show (p.l.map fun _ => (PyData.bool true)) = List.replicate p.l.length (.bool true) from List.map_const' ..]
    show (boolsD _).map _ = _
    rw [boolsD_true]
    simp
  have hi : den (Ph l) DnLib.G (.or (.not (.blt .isTup (.cons (.var 0) .nil))) (.not (.blt .all (.cons (.comp (.one 1) [1] (.seq (.var 0)) (.bl true) (.call 7 (.cons (.var 1) .nil))) .nil)))) true [da (encP p), .un] k = some (.bool false, k) :=
    we_orF (we_not (b := true) (we_blt (wa_one rfl) rfl)) (we_not (b := true) (we_blt (wa_one hc) ha))
  by_cases h0 : p = 0
  · exact ⟨_, ss_nx (ws_ifF hi rfl) (ss_rt (ws_ret (we_orT (we_cmp rfl tup_nil (by rw [cmp_eqP, h0]; rfl)))))⟩
  · have hne : p.l ≠ [] := fun z => h0 (P.l_nil.mp z)
    have hld := P.lead_ne h0
    exact ⟨_, ss_nx (ws_ifF hi rfl) (ss_rt (ws_ret (we_orF (we_cmp rfl tup_nil (by rw [cmp_eqP, decide_eq_false h0])) (we_cmp (d := true) (we_idx rfl neg_one (idx_end hne)) w_g0 (by
      rw [cmp_neE]
      show some (!decide (p.lead = 0)) = _
      rw [decide_eq_false hld]; rfl)))))⟩
theorem c0_ne {p : P} (h : p.c 0 = 1) : p ≠ 0 := by
  intro z
  rw [z, P.c_zero] at h
  exact absurd h (by grind)
theorem led_by_enc (p : P) (h : p.c 0 = 1) : At 1 31 [da (encP p)] (.bool true) := At.of rfl rfl rfl fun l k hn => by
  have h0 := c0_ne h
  exact ⟨_, ss_rt (ws_ret (we_andT (we_cmp rfl tup_nil (by rw [cmp_neP, decide_eq_false h0]; rfl)) (we_cmp (d := true) (we_idx rfl rfl (idx_tup (i := 0) (P.len_pos h0))) w_g1 (by
    rw [cmp_eqE]
    show some (decide (p.c 0 = 1)) = _
    rw [h]; rfl))))⟩
theorem is_led_enc (p : P) (hl : p.len < 10000) (h : p.c 0 = 1) : At 5 39 [da (encP p)] (.bool true) := At.of rfl rfl rfl fun l k hn =>
  ⟨_, ss_rt (ws_ret (we_andT (we_call (wa_one rfl) (is_row_enc p hl l k hn)) (we_call (wa_one rfl) (led_by_enc p h l k (by omega)))))⟩
theorem is_machine_enc (n m : P) (hl : n.len < 10000) (hl2 : m.len < 10000) (hn0 : n ≠ 0) (hn : n.c 0 = 0) (hm : m.c 0 = 1) : At 6 43 [da (pr n m)] (.bool true) := At.of rfl rfl rfl fun l k hk => by
  refine ⟨_, ss_nx (ws_ifF (we_orF (we_not (b := true) (we_blt (wa_one rfl) rfl)) (we_orF (we_cmp (d := false) (we_blt (wa_one rfl) rfl) rfl rfl) (we_orF (we_not (b := true) (we_call (wa_one (we_idx rfl rfl idx0)) (is_row_enc n hl l k (by omega)))) (we_not (b := true) (we_call (wa_one (we_idx rfl rfl idx1)) (is_led_enc m hl2 hm l k hk)))))) rfl)
    (ss_rt (ws_ret (we_andT (we_cmp (we_idx rfl rfl idx0) tup_nil (by rw [cmp_neP, decide_eq_false hn0]; rfl)) (we_cmp (d := true) (we_idx (we_idx rfl rfl idx0) rfl (idx_tup (i := 0) (P.len_pos hn0))) w_g0 ?_))))⟩
  rw [cmp_eqE]
  show some (decide (n.c 0 = 0)) = _
  rw [hn]; rfl
theorem is_helm_enc (a b : P) (hl : a.len < 10000) (hl2 : b.len < 10000) (hb : b.c 0 = 1) : At 6 44 [da (pr a b)] (.bool true) := At.of rfl rfl rfl fun l k hk =>
  ⟨_, ss_rt (ws_ret (we_andT (we_blt (wa_one rfl) rfl) (we_andT (we_cmp (d := true) (we_blt (wa_one rfl) rfl) rfl rfl) (we_andT (we_call (wa_one (we_idx rfl rfl idx0)) (is_row_enc a hl l k (by omega))) (we_call (wa_one (we_idx rfl rfl idx1)) (is_led_enc b hl2 hb l k hk))))))⟩
theorem check_machine_enc (n m : P) (hl : n.len < 10000) (hl2 : m.len < 10000) (hn0 : n ≠ 0) (hn : n.c 0 = 0) (hm : m.c 0 = 1) : At 7 45 [da (pr n m)] .none := At.ofN rfl rfl rfl fun l k hk =>
  ⟨_, ss_nx (ws_ifF (we_not (b := true) (we_call (wa_one rfl) (is_machine_enc n m hl hl2 hn0 hn hm l k hk))) rfl) rfl⟩
theorem check_helm_enc (a b : P) (hl : a.len < 10000) (hl2 : b.len < 10000) (hb : b.c 0 = 1) : At 7 46 [da (pr a b)] .none := At.ofN rfl rfl rfl fun l k hk =>
  ⟨_, ss_nx (ws_ifF (we_not (b := true) (we_call (wa_one rfl) (is_helm_enc a b hl hl2 hb l k hk))) rfl) rfl⟩
theorem check_pair_enc (n m a b : P) (hl : n.len < 10000) (hl2 : m.len < 10000) (hn0 : n ≠ 0) (hn : n.c 0 = 0) (hm : m.c 0 = 1) (hl3 : a.len < 10000) (hl4 : b.len < 10000) (hb : b.c 0 = 1) : At 8 47 [da (pr n m), da (pr a b)] .none := At.ofN rfl rfl rfl fun l k hk =>
  ⟨_, ss_nx (ws_exc (we_call (wa_one rfl) (check_machine_enc n m hl hl2 hn0 hn hm l k hk))) (ss_nx (ws_exc (we_call (wa_one rfl) (check_helm_enc a b hl3 hl4 hb l k hk))) rfl)⟩
theorem check_wished_enc (p : P) (hl : p.len < 10000) (h : p.c 0 = 1) : At 6 65 [da (encP p)] .none := At.ofN rfl rfl rfl fun l k hk =>
  ⟨_, ss_nx (ws_ifF (we_not (b := true) (we_call (wa_one rfl) (is_led_enc p hl h l k hk))) rfl) rfl⟩
theorem degree_enc (p : P) : At 1 18 [da (encP p)] (.int ((p.len : Int) - 1)) := At.of rfl rfl rfl fun l k hk =>
  ⟨_, ss_rt (ws_ret (we_bin (we_blt (wa_one rfl) (len_row p)) rfl rfl))⟩
def sizeI (p q : P) : Int := if (q.len : Int) - 1 > (p.len : Int) - 1 then (q.len : Int) - 1 else (p.len : Int) - 1
theorem size_enc (p q : P) : At 2 48 [da (pr p q)] (.int (sizeI p q)) := At.of rfl rfl rfl fun l k hk =>
  ⟨_, ss_rt (ws_ret (we_blt (wa_two (we_call (wa_one (we_idx rfl rfl idx0)) (degree_enc p l k hk)) (we_call (wa_one (we_idx rfl rfl idx1)) (degree_enc q l k hk))) rfl))⟩
theorem size_of_enc (n m : P) (hl : n.len < 10000) (hl2 : m.len < 10000) (hn0 : n ≠ 0) (hn : n.c 0 = 0) (hm : m.c 0 = 1) : At 8 313 [da (pr n m)] (.int (sizeI n m)) := At.of rfl rfl rfl fun l k hk =>
  ⟨_, ss_nx (ws_exc (we_call (wa_one rfl) (check_machine_enc n m hl hl2 hn0 hn hm l k hk))) (ss_rt (ws_ret (we_call (wa_one rfl) (size_enc n m l k (by omega)))))⟩
theorem helm_size_enc (a b : P) (hl : a.len < 10000) (hl2 : b.len < 10000) (hb : b.c 0 = 1) : At 8 314 [da (pr a b)] (.int (sizeI a b)) := At.of rfl rfl rfl fun l k hk =>
  ⟨_, ss_nx (ws_exc (we_call (wa_one rfl) (check_helm_enc a b hl hl2 hb l k hk))) (ss_rt (ws_ret (we_call (wa_one rfl) (size_enc a b l k (by omega)))))⟩

/-- a machine with the hidden part h, the core n, m and its base helm p, w -/
structure Mach (n m h p w : P) : Prop where
  n0 : n ≠ 0
  nc : n.c 0 = 0
  mc : m.c 0 = 1
  hc : h.c 0 = 1
  base : P.Base n m p w
  sn : Sg 200 30 n
  sm : Sg 200 30 m
  sh : Sg 200 30 h
  sp : Sg 1000 30 p
  sw : Sg 1500 60 w
  eu : EuOk (n * h) (m * h)
  st : At 15 35 [da (encP h)] (.bool true)
namespace Mach
variable {n m h p w : P}
theorem h0 (M : Mach n m h p w) : h ≠ 0 := c0_ne M.hc
theorem m0 (M : Mach n m h p w) : m ≠ 0 := c0_ne M.mc
theorem nh0 (M : Mach n m h p w) : n * h ≠ 0 := P.mul_ne M.n0 M.h0
theorem nhc (M : Mach n m h p w) : (n * h).c 0 = 0 := by rw [P.c0_mul, M.nc, Rat.zero_mul]
theorem mhc (M : Mach n m h p w) : (m * h).c 0 = 1 := by rw [P.c0_mul, M.mc, M.hc, Rat.one_mul]
theorem snh (M : Mach n m h p w) : Sg 400 59 (n * h) := (M.sn.mul M.sh).up (by omega) (by omega)
theorem smh (M : Mach n m h p w) : Sg 400 59 (m * h) := (M.sm.mul M.sh).up (by omega) (by omega)
theorem isG (M : Mach n m h p w) : P.IsG h (n * h) (m * h) := by
  refine ⟨⟨p, w, by have := M.base.eq; grind⟩, ⟨n, rfl⟩, ⟨m, rfl⟩, ?_⟩
  rw [P.low_c0 (by rw [M.hc]; grind), M.hc]
theorem wc (M : Mach n m h p w) : w.c 0 = 1 := by
  have e : (m * w + n * p).c 0 = (1 : P).c 0 := by rw [M.base.eq]
  rw [P.c_add, P.c0_mul, P.c0_mul, M.mc, M.nc] at e
  have e1 : (1 : P).c 0 = 1 := P.c_C0 1
  rw [e1] at e; grind
theorem chk (M : Mach n m h p w) : At 7 45 [da (pr (n * h) (m * h))] .none := check_machine_enc _ _ (by have := M.snh.2; omega) (by have := M.smh.2; omega) M.nh0 M.nhc M.mhc
theorem hidden (M : Mach n m h p w) : At 7 49 [da (pr (n * h) (m * h))] (encP h) := At.of rfl rfl rfl fun l k hk =>
  ⟨_, ss_rt (ws_ret (we_call (wa_two (we_idx rfl rfl idx0) (we_idx rfl rfl idx1)) (divisor_enc _ _ _ M.eu M.isG l k (by omega))))⟩
theorem core (M : Mach n m h p w) : At 8 50 [da (pr (n * h) (m * h))] (pr n m) := At.of rfl rfl rfl fun l k hk =>
  ⟨_, ss_nx (ws_asg (env' := [da (pr (n * h) (m * h)), da (encP h)]) (we_call (wa_one rfl) (M.hidden l k hk)) rfl) (ss_rt (ws_ret (we_tup (wa_two
    (we_call (wa_two (we_idx rfl rfl idx0) rfl) (quotient_enc (n * h) h n 0 (M.snh.pt M.sh M.h0 (by omega) (by omega) (by omega)) (by grind) (P.len_pos M.h0) l k (by omega)))
    (we_call (wa_two (we_idx rfl rfl idx1) rfl) (quotient_enc (m * h) h m 0 (M.smh.pt M.sh M.h0 (by omega) (by omega) (by omega)) (by grind) (P.len_pos M.h0) l k (by omega)))))))⟩
theorem reached (M : Mach n m h p w) : At 16 51 [da (pr (n * h) (m * h))] (.bool true) := At.of rfl rfl rfl fun l k hk =>
  ⟨_, ss_rt (ws_ret (we_call (wa_one (we_call (wa_one rfl) (M.hidden l k (by omega)))) (M.st l k hk)))⟩
theorem hidden_part (M : Mach n m h p w) : At 8 52 [da (pr (n * h) (m * h))] (encP h) := At.of rfl rfl rfl fun l k hk =>
  ⟨_, ss_nx (ws_exc (we_call (wa_one rfl) (M.chk l k (by omega)))) (ss_rt (ws_ret (we_call (wa_one rfl) (M.hidden l k (by omega)))))⟩
theorem core_of (M : Mach n m h p w) : At 9 315 [da (pr (n * h) (m * h))] (pr n m) := At.of rfl rfl rfl fun l k hk =>
  ⟨_, ss_nx (ws_exc (we_call (wa_one rfl) (M.chk l k (by omega)))) (ss_rt (ws_ret (we_call (wa_one rfl) (M.core l k (by omega)))))⟩
theorem check_reached (M : Mach n m h p w) : At 17 66 [da (pr (n * h) (m * h))] .none := At.ofN rfl rfl rfl fun l k hk =>
  ⟨_, ss_nx (ws_ifF (we_not (b := true) (we_call (wa_one rfl) (M.reached l k hk))) rfl) rfl⟩
end Mach
/-- the base helm of a core -/
theorem base_by_enc {n m p w : P} (h : EuOk n m) (hb : P.Base n m p w) (sn : Sg 200 30 n) (sm : Sg 200 30 m) (sp : Sg 1000 30 p) : At 8 57 [da (pr n m)] (pr p w) := At.of rfl rfl rfl fun l k hk =>
  ⟨_, ss_rt (ws_ret (we_call (wa_two (we_idx rfl rfl idx0) (we_idx rfl rfl idx1)) (cofactors_enc n m p w h hb (sn.up (by omega) (by omega)) (sm.up (by omega) (by omega)) (sp.up (by omega) (by omega)) l k hk)))⟩
theorem closing_by_enc {n m a b : P} {B L : Nat} (hB : B ≤ 5000000) (hL : L ≤ 900) (sn : Sg B L n) (sm : Sg B L m) (sa : Sg B L a) (sb : Sg B L b) : At 6 54 [da (pr n m), da (pr a b)] (encP (m * b + n * a)) := At.of rfl rfl rfl fun l k hk =>
  ⟨_, ss_rt (ws_ret (we_call (wa_two (we_call (wa_two (we_idx rfl rfl idx1) (we_idx rfl rfl idx1)) (multiplied_enc m b (sm.ml sb (by omega) (by omega) (by omega)) l k hk)) (we_call (wa_two (we_idx rfl rfl idx0) (we_idx rfl rfl idx0)) (multiplied_enc n a (sn.ml sa (by omega) (by omega) (by omega)) l k hk)))
    (added_enc (m * b) (n * a) ((sm.mul sb).ad (sn.mul sa) (by omega) (by omega) (by omega)) l k hk)))⟩
end Dn
set_option Elab.async false
set_option linter.all false
set_option maxRecDepth 100000
/-! DnM8: least helms, free answers, beats (the package's). -/
namespace Dn
open PySem
open P (Sg)
theorem encP_inj {p q : P} (h : p.l = q.l) : p = q := by cases p; cases q; cases h; rfl
theorem cmp_eqPr (a b c d : P) : cmpD .eq (pr a b) (pr c d) = some (decide (a = c ∧ b = d)) := by
  have s : ∀ p q : P, SeqAt.shaped (pr p q) = true := fun p q => by
    have h1 := depth_row p.l
    have h2 := depth_row q.l
    refine Bool.and_eq_true_iff.mpr ⟨?_, decide_eq_true ?_⟩
    · show PyData.canLay0 _ = true
      simp only [encP, encR, PyData.canLay0, PyData.canLayAll0, canLay_row, Bool.and_self]
    · show PyData.depth _ ≤ 64
      simp only [encP, encR, PyData.depth, PyData.depthAll]
      omega
  simp only [cmpD, s, Bool.and_self, if_true]
  have e1 : PyData.eqv (encP a) (encP c) = decide (a.l = c.l) := eqv_row a.l c.l
  have e2 : PyData.eqv (encP b) (encP d) = decide (b.l = d.l) := eqv_row b.l d.l
  simp only [PyData.eqv, PyData.eqvAll, e1, e2, Bool.and_true]
  congr 1
  have i1 : a.l = c.l ↔ a = c := ⟨encP_inj, fun h => by rw [h]⟩
  have i2 : b.l = d.l ↔ b = d := ⟨encP_inj, fun h => by rw [h]⟩
  simp only [i1, i2, Bool.decide_and]
theorem normal_zero (u : P) : At 1 36 [da (encP 0), da (encP u)] (pr 0 1) := At.of rfl rfl rfl fun l k hk =>
  ⟨_, ss_rt (ws_ifT (we_cmp rfl tup_nil (cmp_eqP 0 0)) (ss_rt (ws_ret (we_tup (wa_two tup_nil w_g2)))))⟩
theorem normal_enc {B L : Nat} (hB : B ≤ 100000) (hL : L ≤ 200) (top under g t u : P) (h0 : top ≠ 0) (eu : EuOk top under) (hg : P.IsG g top under) (e1 : top = t * g) (e2 : under = u * g) (hu : u.c 0 ≠ 0)
    (s1 : Sg B L top) (s2 : Sg B L under) (s3 : Sg B L g) (s4 : Sg B L t) (s5 : Sg B L u) : At 7 36 [da (encP top), da (encP under)] (pr (P.C (1 / u.c 0) * t) (P.C (1 / u.c 0) * u)) := At.of rfl rfl rfl fun l k hk => by
  have hg0 : g ≠ 0 := by intro z; apply h0; rw [e1, z]; grind
  have hu0 : u ≠ 0 := by intro z; rw [z, P.c_zero] at hu; exact hu rfl
  have hLB : L * (B + 2) ≤ 200 * (100000 + 2) := Nat.mul_le_mul hL (by omega)
  have t1 := divisor_enc top under g eu hg l k (by omega)
  have t2 := quotient_enc top g t 0 (s1.pt s3 hg0 (by omega) (by omega) (by omega)) (by grind) (P.len_pos hg0) l k (by omega)
  have t3 := quotient_enc under g u 0 (s2.pt s3 hg0 (by omega) (by omega) (by omega)) (by grind) (P.len_pos hg0) l k (by omega)
  have hs : Sm (u.c 0) := Sm_of s5.1 (by omega) 0
  have t4 := over_enc 1 (u.c 0) Sm_one hs hu l k (by omega)
  have t5 := scaled_enc (1 / u.c 0) t (Sm_inv hs hu) s4.1 (by omega) (by have := s4.2; omega) l k (by omega)
  have t6 := scaled_enc (1 / u.c 0) u (Sm_inv hs hu) s5.1 (by omega) (by have := s5.2; omega) l k (by omega)
  exact ⟨_, ss_nx (ws_ifF (we_cmp rfl tup_nil (by rw [cmp_eqP, decide_eq_false h0])) rfl)
    (ss_nx (ws_asg (env' := [da (encP top), da (encP under), da (encP g), .un]) (we_call (wa_two rfl rfl) t1) rfl)
    (ss_nx (ws_par (env' := [da (encP t), da (encP u), da (encP g), .un]) (wo_two (we_call (wa_two rfl rfl) t2) (we_call (wa_two rfl rfl) t3)) rfl)
    (ss_nx (ws_asg (env' := [da (encP t), da (encP u), da (encP g), da (enc (1 / u.c 0))]) (we_call (wa_two w_g1 (we_idx rfl rfl (idx_tup (i := 0) (P.len_pos hu0)))) t4) rfl)
    (ss_rt (ws_ret (we_tup (wa_two (we_call (wa_two rfl rfl) t5) (we_call (wa_two rfl rfl) t6))))))))⟩
/-- .. of two rows without a common divisor -/
theorem normal_cop {B L : Nat} (hB : B ≤ 100000) (hL : L ≤ 200) (hL1 : 1 ≤ L) (p w : P) (eu : EuOk p w) (hg : ∃ e f, e * p + f * w = 1) (hw : w.c 0 = 1) (s1 : Sg B L p) (s2 : Sg B L w) : At 7 36 [da (encP p), da (encP w)] (pr p w) := by
  have hG := P.IsG_one hg
  by_cases h0 : p = 0
  · subst h0
    have e : (1 : P) = w := P.IsG_unique hG ⟨⟨0, 1, by grind⟩, ⟨0, by grind⟩, ⟨1, by grind⟩, by rw [P.low_c0 (by rw [hw]; grind), hw]⟩
    have := (normal_zero w).up (show 1 ≤ 7 by omega)
    rw [← e] at this ⊢
    exact this
  · have := normal_enc hB hL p w 1 p w h0 eu hG (by grind) (by grind) (by rw [hw]; grind) s1 s2 (Sg.one B L hL1) s1 s2
    have e1 : P.C (1 / w.c 0) = 1 := by rw [hw, ← P.C_one]; congr 1; grind
    rw [e1, show 1 * p = p by grind, show 1 * w = w by grind] at this
    exact this
/-- the least helm of a core for a closing row -/
structure Least (n m g a b : P) : Prop where
  eq : m * b + n * a = g
  lt : a.len < m.len
theorem Least.uniq {n m p w g a b a' b' : P} (hb : P.Base n m p w) (h : Least n m g a b) (h' : Least n m g a' b') : a = a' ∧ b = b' := by
  have e0 : n * (a - a') = (b' - b) * m := by
    have a := h.eq
    have b := h'.eq
    grind
  have e : (p * (b' - b) + w * (a - a')) * m = a - a' := by
    have := hb.eq
    grind
  have hz : p * (b' - b) + w * (a - a') = 0 := by
    apply Classical.byContradiction
    intro hz
    have l1 := P.len_mul hz hb.m0
    rw [e] at l1
    have l2 := P.len_sub a a'
    have l3 := h.lt
    have l4 := h'.lt
    have l5 := P.len_pos hz
    omega
  have ha : a = a' := by rw [hz] at e; grind
  subst ha
  refine ⟨rfl, P.cancel hb.m0 ?_⟩
  have a := h.eq
  have b := h'.eq
  grind
theorem Least.of {n m p w : P} (hb : P.Base n m p w) (g : P) : ∃ q a b, p * g = q * m + a ∧ b = w * g + n * q ∧ Least n m g a b := by
  obtain ⟨q, a, h1, h2⟩ := P.div_ex' hb.m0 (p * g)
  refine ⟨q, a, _, h1, rfl, ?_, h2⟩
  have := hb.eq
  grind
namespace Mach
variable {n m h p w : P}
theorem euc (M : Mach n m h p w) (e1 : h = 1) : EuOk n m := by
  have := M.eu
  rw [e1, show n * 1 = n by grind, show m * 1 = m by grind] at this
  exact this
theorem base_helm (M : Mach n m h p w) (ec : EuOk n m) : At 18 67 [da (pr (n * h) (m * h))] (pr p w) := At.of rfl rfl rfl fun l k hk =>
  ⟨_, ss_nx (ws_exc (we_call (wa_one rfl) (M.chk l k (by omega)))) (ss_nx (ws_exc (we_call (wa_one rfl) (M.check_reached l k hk))) (ss_rt (ws_ret (we_call (wa_one (we_call (wa_one rfl) (M.core l k (by omega)))) (base_by_enc ec M.base M.sn M.sm M.sp l k (by omega))))))⟩
theorem least_by (M : Mach n m h p w) (ec : EuOk n m) {g q a b : P} (hs : Sg 1000 60 g) (e : p * g = q * m + a) (hL : Least n m g a b) : At 10 180 [da (pr (n * h) (m * h)), da (encP (g * h))] (pr a b) := At.of rfl rfl rfl fun l k hk => by
  have sgh : Sg 1200 89 (g * h) := (hs.mul M.sh).up (by omega) (by omega)
  have spg : Sg 2000 89 (p * g) := (M.sp.mul hs).up (by omega) (by omega)
  have sa : Sg 30000 30 a := ⟨P.Ht_up (P.Ht_div (k := 90) spg.1 M.sm.1 (by have := spg.2; omega) e hL.lt).1 (by omega), by have := hL.lt; have := M.sm.2; omega⟩
  have t1 := divide_enc (g * h) h g 0 (sgh.pt M.sh M.h0 (by omega) (by omega) (by omega)) (by grind) (P.len_pos M.h0) l k (by omega)
  have t2 := quotient_enc (g * h) h g 0 (sgh.pt M.sh M.h0 (by omega) (by omega) (by omega)) (by grind) (P.len_pos M.h0) l k (by omega)
  have t3 := multiplied_enc p g (M.sp.ml hs (by omega) (by omega) (by omega)) l k (by omega)
  have t4 := parted_enc (p * g) m q a (spg.pt M.sm M.m0 (by omega) (by omega) (by omega)) e hL.lt l k (by omega)
  have t5 := multiplied_enc n a (M.sn.ml sa (by omega) (by omega) (by omega)) l k (by omega)
  have t6 := lessened_enc g (n * a) (hs.ad (M.sn.mul sa) (by omega) (by omega) (by omega)) l k (by omega)
  have t7 := quotient_enc (g - n * a) m b 0 ((hs.sub (M.sn.mul sa)).pt M.sm M.m0 (by omega) (by omega) (by omega)) (by have := hL.eq; grind) (P.len_pos M.m0) l k (by omega)
  exact ⟨_, ss_nx (ws_asg (env' := [da (pr (n * h) (m * h)), da (encP (g * h)), da (encP h), .un, .un, .un]) (we_call (wa_one rfl) (M.hidden l k (by omega))) rfl)
    (ss_nx (ws_ifF (we_not (b := true) (we_call (wa_two rfl rfl) t1)) rfl)
    (ss_nx (ws_par (env' := [da (pr (n * h) (m * h)), da (encP (g * h)), da (encP h), da (pr n m), da (encP g), .un]) (wo_two (we_call (wa_one rfl) (M.core l k (by omega))) (we_call (wa_two rfl rfl) t2)) rfl)
    (ss_nx (ws_asg (env' := [da (pr (n * h) (m * h)), da (encP (g * h)), da (encP h), da (pr n m), da (encP g), da (encP a)]) (we_idx (we_call (wa_two (we_call (wa_two (we_idx (we_call (wa_one rfl) (base_by_enc ec M.base M.sn M.sm M.sp l k (by omega))) rfl idx0) rfl) t3) (we_idx rfl rfl idx1)) t4) rfl idx1) rfl)
    (ss_rt (ws_ret (we_tup (wa_two rfl (we_call (wa_two (we_call (wa_two rfl (we_call (wa_two (we_idx rfl rfl idx0) rfl) t5)) t6) (we_idx rfl rfl idx1)) t7))))))))⟩
theorem least_helm (M : Mach n m h p w) (ec : EuOk n m) {g q a b : P} (hs : Sg 1000 60 g) (gc : g.c 0 = 1) (e : p * g = q * m + a) (hL : Least n m g a b) : At 11 181 [da (pr (n * h) (m * h)), da (encP (g * h))] (pr a b) := At.of rfl rfl rfl fun l k hk =>
  ⟨_, ss_nx (ws_exc (we_call (wa_one rfl) (M.chk l k (by omega)))) (ss_nx (ws_exc (we_call (wa_one rfl) (check_wished_enc (g * h) (by have := (hs.mul M.sh).2; omega) (by rw [P.c0_mul, gc, M.hc, Rat.one_mul]) l k (by omega)))) (ss_rt (ws_ret (we_call (wa_two rfl rfl) (M.least_by ec hs e hL l k (by omega))))))⟩
theorem closing_row (M : Mach n m h p w) {a b : P} {B : Nat} (hB : B ≤ 1000000) (sa : Sg B 900 a) (sb : Sg B 900 b) (bc : b.c 0 = 1) : At 9 101 [da (pr (n * h) (m * h)), da (pr a b)] (encP (h * (m * b + n * a))) := At.of rfl rfl rfl fun l k hk => by
  have t := closing_by_enc (B := B + 400) (L := 900) (by omega) (by omega) (M.snh.up (by omega) (by omega)) (M.smh.up (by omega) (by omega)) (sa.up (by omega) (by omega)) (sb.up (by omega) (by omega)) l k (by omega)
  rw [show m * h * b + n * h * a = h * (m * b + n * a) by grind] at t
  exact ⟨_, ss_nx (ws_exc (we_call (wa_two rfl rfl) (check_pair_enc _ _ _ _ (by have := M.snh.2; omega) (by have := M.smh.2; omega) M.nh0 M.nhc M.mhc (by have := sa.2; omega) (by have := sb.2; omega) bc l k (by omega)))) (ss_rt (ws_ret (we_call (wa_two rfl rfl) t)))⟩
theorem number_one (q : P) : At 1 64 [da (encP q)] (.bool (decide (q = 1))) := At.of rfl rfl rfl fun l k hk => by
  have g : den (Ph l) DnLib.G (.tup (.cons (.glo 1) .nil)) true [da (encP q)] k = some (encP 1, k) := by
    have : encP 1 = .tuple [enc 1] := by show encR (1 : P).l = _; rw [P.l_one]; rfl
    rw [this]
    exact we_tup (wa_one w_g1)
  exact ⟨_, ss_rt (ws_ret (we_cmp rfl g (cmp_eqP q 1)))⟩
theorem fewest (M : Mach n m h p w) (ec : EuOk n m) : At 11 104 [da (pr (n * h) (m * h))] (if h = 1 then .int (sizeI (n * h) (m * h) + sizeI p w) else .none) := by
  have e : At 10 100 [da (pr (n * h) (m * h))] (if h = 1 then .int (sizeI (n * h) (m * h) + sizeI p w) else .none) := At.of rfl rfl rfl fun l k hk => by
    by_cases h1 : h = 1
    · rw [if_pos h1]
      exact ⟨_, ss_nx (ws_ifF (we_not (b := true) (we_call (wa_one (we_call (wa_one rfl) (M.hidden l k (by omega)))) (by have := number_one h l k (by omega); rw [decide_eq_true h1] at this; exact this))) rfl)
        (ss_rt (ws_ret (we_bin (we_call (wa_one rfl) (size_enc _ _ l k (by omega))) (we_call (wa_one (we_call (wa_one (we_call (wa_one rfl) (M.core l k (by omega)))) (base_by_enc ec M.base M.sn M.sm M.sp l k (by omega)))) (size_enc p w l k (by omega))) rfl)))⟩
    · rw [if_neg h1]
      exact ⟨_, ss_rt (ws_ifT (we_not (b := false) (we_call (wa_one (we_call (wa_one rfl) (M.hidden l k (by omega)))) (by have := number_one h l k (by omega); rw [decide_eq_false h1] at this; exact this))) (ss_rt (ws_ret rfl)))⟩
  exact At.of rfl rfl rfl fun l k hk => ⟨_, ss_nx (ws_exc (we_call (wa_one rfl) (M.chk l k (by omega)))) (ss_rt (ws_ret (we_call (wa_one rfl) (e l k hk))))⟩
theorem free_base (M : Mach n m h p w) (ec : EuOk n m) (eb : EuOk p w) : At 20 68 [da (pr (n * h) (m * h)), da (pr p w)] (pr 0 1) := by
  have e0 : At 10 58 [da (pr n m), da (pr p w)] (pr 0 1) := At.of rfl rfl rfl fun l k hk => by
    have t1 := base_by_enc ec M.base M.sn M.sm M.sp l k (by omega)
    have t2 := normal_cop (B := 1500) (L := 60) (by omega) (by omega) (by omega) p w eb ⟨n, m, by have := M.base.eq; grind⟩ M.wc (M.sp.up (by omega) (by omega)) (M.sw.up (by omega) (by omega)) l k (by omega)
    have t3 := multiplied_enc p w (M.sp.ml M.sw (by omega) (by omega) (by omega)) l k (by omega)
    have t4 := multiplied_enc w p (M.sw.ml M.sp (by omega) (by omega) (by omega)) l k (by omega)
    have t5 := lessened_enc (p * w) (w * p) ((M.sp.mul M.sw).ad (M.sw.mul M.sp) (by omega) (by omega) (by omega)) l k (by omega)
    rw [show p * w - w * p = 0 by grind] at t5
    have t6 := closing_by_enc (B := 1500) (L := 60) (by omega) (by omega) (M.sn.up (by omega) (by omega)) (M.sm.up (by omega) (by omega)) (M.sp.up (by omega) (by omega)) (M.sw.up (by omega) (by omega)) l k (by omega)
    exact ⟨_, ss_nx (ws_unp (env' := [da (pr n m), da (pr p w), da (encP p), da (encP w), .un, .un]) (we_call (wa_one rfl) t1) rfl)
      (ss_nx (ws_unp (env' := [da (pr n m), da (pr p w), da (encP p), da (encP w), da (encP p), da (encP w)]) (we_call (wa_two (we_idx rfl rfl idx0) (we_idx rfl rfl idx1)) t2) rfl)
      (ss_rt (ws_ret (we_call (wa_two (we_call (wa_two (we_call (wa_two rfl rfl) t3) (we_call (wa_two rfl rfl) t4)) t5) (we_call (wa_two rfl (we_tup (wa_two rfl rfl))) t6)) (normal_zero _ l k (by omega))))))⟩
  have e1 : At 17 55 [da (pr (n * h) (m * h)), da (pr p w)] (.bool true) := At.of rfl rfl rfl fun l k hk => by
    have t := closing_by_enc (B := 1500) (L := 60) (by omega) (by omega) (M.snh.up (by omega) (by omega)) (M.smh.up (by omega) (by omega)) (M.sp.up (by omega) (by omega)) (M.sw.up (by omega) (by omega)) l k (by omega)
    rw [show m * h * w + n * h * p = h by have := M.base.eq; grind] at t
    exact ⟨_, ss_rt (ws_ret (we_call (wa_one (we_call (wa_two rfl rfl) t)) (M.st l k (by omega))))⟩
  exact At.of rfl rfl rfl fun l k hk =>
    ⟨_, ss_nx (ws_exc (we_call (wa_two rfl rfl) (check_pair_enc _ _ _ _ (by have := M.snh.2; omega) (by have := M.smh.2; omega) M.nh0 M.nhc M.mhc (by have := M.sp.2; omega) (by have := M.sw.2; omega) M.wc l k (by omega))))
      (ss_nx (ws_exc (we_call (wa_one rfl) (M.check_reached l k (by omega))))
      (ss_nx (ws_ifF (we_not (b := true) (we_call (wa_two rfl rfl) (e1 l k (by omega)))) rfl)
      (ss_rt (ws_ret (we_call (wa_two (we_call (wa_one rfl) (M.core l k (by omega))) rfl) (e0 l k (by omega)))))))⟩
theorem steady_one : At 15 35 [da (encP 1)] (.bool true) := fun l k hl => by
  obtain ⟨l', rfl⟩ : ∃ l', l = l' + 15 := ⟨l - 15, by omega⟩
  have e : encP 1 = .tuple [enc 1] := by show encR (1 : P).l = _; rw [P.l_one]; rfl
  rw [e]
  kernel_rfl
theorem check_nought : At 9 42 [da (pr 0 1)] .none := by
  have e : At 8 41 [da (pr 0 1)] (.bool true) := At.of rfl rfl rfl fun l k hk =>
    ⟨_, ss_nx (ws_ifF (we_orF (we_not (b := true) (we_blt (wa_one rfl) rfl)) (we_orF (we_cmp (d := false) (we_blt (wa_one rfl) rfl) rfl rfl) (we_orF (we_not (b := true) (we_call (wa_one (we_idx rfl rfl idx0)) (is_row_enc 0 (by rw [P.len_zero]; omega) l k (by omega)))) (we_not (b := true) (we_call (wa_one (we_idx rfl rfl idx1)) (is_led_enc 1 (by rw [P.len_one]; omega) (P.c_C0 1) l k (by omega))))))) rfl)
      (ss_rt (ws_ret (we_cmp (we_call (wa_two (we_idx rfl rfl idx0) (we_idx rfl rfl idx1)) (normal_zero 1 l k (by omega))) rfl (by rw [cmp_eqPr]; simp))))⟩
  exact At.ofN rfl rfl rfl fun l k hk => ⟨_, ss_nx (ws_ifF (we_not (b := true) (we_call (wa_one rfl) (e l k hk))) rfl) rfl⟩
theorem helm_nought (M : Mach n m h p w) (ec : EuOk n m) (eb : EuOk p w) : At 20 297 [da (pr (n * h) (m * h)), da (pr 0 1)] (pr p w) := by
  have e0 : At 10 201 [da (pr n m), da (pr 0 1)] (pr p w) := At.of rfl rfl rfl fun l k hk => by
    have t1 := base_by_enc ec M.base M.sn M.sm M.sp l k (by omega)
    have s1 : Sg 0 1 1 := Sg.one 0 1 (by omega)
    have s0 : Sg 0 1 0 := Sg.zero 0 1
    have a1 := multiplied_enc p 1 (M.sp.ml s1 (by omega) (by omega) (by omega)) l k (by omega)
    have a2 := multiplied_enc m 0 (M.sm.ml s0 (by omega) (by omega) (by omega)) l k (by omega)
    have a3 := added_enc (p * 1) (m * 0) ((M.sp.mul s1).ad (M.sm.mul s0) (by omega) (by omega) (by omega)) l k (by omega)
    have b1 := multiplied_enc w 1 (M.sw.ml s1 (by omega) (by omega) (by omega)) l k (by omega)
    have b2 := multiplied_enc n 0 (M.sn.ml s0 (by omega) (by omega) (by omega)) l k (by omega)
    have b3 := lessened_enc (w * 1) (n * 0) ((M.sw.mul s1).ad (M.sn.mul s0) (by omega) (by omega) (by omega)) l k (by omega)
    rw [show p * 1 + m * 0 = p by grind] at a3
    rw [show w * 1 - n * 0 = w by grind] at b3
    have t2 := normal_cop (B := 1500) (L := 60) (by omega) (by omega) (by omega) p w eb ⟨n, m, by have := M.base.eq; grind⟩ M.wc (M.sp.up (by omega) (by omega)) (M.sw.up (by omega) (by omega)) l k (by omega)
    exact ⟨_, ss_nx (ws_unp (env' := [da (pr n m), da (pr 0 1), da (encP p), da (encP w), .un, .un, .un, .un]) (we_call (wa_one rfl) t1) rfl)
      (ss_nx (ws_unp (env' := [da (pr n m), da (pr 0 1), da (encP p), da (encP w), da (encP 0), da (encP 1), .un, .un]) rfl rfl)
      (ss_nx (ws_asg (env' := [da (pr n m), da (pr 0 1), da (encP p), da (encP w), da (encP 0), da (encP 1), da (encP p), .un]) (we_call (wa_two (we_call (wa_two rfl rfl) a1) (we_call (wa_two (we_idx rfl rfl idx1) rfl) a2)) a3) rfl)
      (ss_nx (ws_asg (env' := [da (pr n m), da (pr 0 1), da (encP p), da (encP w), da (encP 0), da (encP 1), da (encP p), da (encP w)]) (we_call (wa_two (we_call (wa_two rfl rfl) b1) (we_call (wa_two (we_idx rfl rfl idx0) rfl) b2)) b3) rfl)
      (ss_rt (ws_ret (we_call (wa_two rfl rfl) t2))))))⟩
  exact At.of rfl rfl rfl fun l k hk =>
    ⟨_, ss_nx (ws_exc (we_call (wa_one rfl) (M.chk l k (by omega))))
      (ss_nx (ws_exc (we_call (wa_one rfl) (check_nought l k (by omega))))
      (ss_nx (ws_exc (we_call (wa_one rfl) (M.check_reached l k (by omega))))
      (ss_nx (ws_ifF (we_not (b := true) (we_call (wa_one (we_idx rfl rfl idx1)) (steady_one l k (by omega)))) rfl)
      (ss_rt (ws_ret (we_call (wa_two (we_call (wa_one rfl) (M.core l k (by omega))) rfl) (e0 l k (by omega))))))))⟩
end Mach
end Dn
set_option Elab.async false
set_option linter.all false
set_option maxRecDepth 100000
/-! DnM9: the law's own fractions and rows. -/
namespace Dn
open PySem
open P (Sg)
def fIn : CSs := (.cons (.iff (.cmp .eq (.var 3) (.int 0)) (.cons .brk .nil) .nil) (.cons (.par [2, 3] (.cons (.var 3) (.cons (.bin .mod (.blt .int (.cons (.var 2) .nil)) (.var 3)) .nil))) .nil))
theorem cmp_eqI (i j : Int) : cmpD .eq (.int i) (.int j) = some (decide (i = j)) := by
  have h1 : SeqAt.shaped (.int i) = true := rfl
  have h2 : SeqAt.shaped (.int j) = true := rfl
  simp only [cmpD, h1, h2, Bool.and_self, if_true]
  rfl
theorem cmp_neI (i j : Int) : cmpD .ne (.int i) (.int j) = some (!decide (i = j)) := by
  have := cmp_eqI i j
  have h1 : SeqAt.shaped (.int i) = true := rfl
  have h2 : SeqAt.shaped (.int j) = true := rfl
  simp only [cmpD, h1, h2, Bool.and_self, if_true] at this ⊢
  rw [Option.some.inj this]
abbrev stF (l : Nat) : PyData → DEnv → KS → Option Res := fun x env k => (bindP (.one 4) x env).bind fun en => denSs (Ph l) DnLib.G MW fIn en k
theorem f_end {l : Nat} {k : KS} {s0 s1 : Sl} {one : Nat} : ∀ (ys : List PyData) (s4 : Sl), ∃ a4, forD (stF l) ys [s0, s1, da (.int (one : Int)), da (.int ((0 : Nat) : Int)), s4] k = some (.nx [s0, s1, da (.int (one : Int)), da (.int ((0 : Nat) : Int)), a4] k)
  | [], s4 => ⟨s4, rfl⟩
  | y :: ys, s4 => ⟨da y, by
    have e : stF l y [s0, s1, da (.int (one : Int)), da (.int ((0 : Nat) : Int)), s4] k = some (.bk [s0, s1, da (.int (one : Int)), da (.int ((0 : Nat) : Int)), da y] k) := by
      show denSs (Ph l) DnLib.G MW fIn [s0, s1, da (.int (one : Int)), da (.int ((0 : Nat) : Int)), da y] k = _
      exact ss_bk (ws_ifT (we_cmp rfl rfl (cmp_eqI _ _)) (ss_bk rfl))
    simp only [forD, e, Option.bind_some]⟩
theorem f_step {l : Nat} {k : KS} {s0 s1 s4 : Sl} {one two : Nat} (h : two ≠ 0) (y : PyData) : stF l y [s0, s1, da (.int (one : Int)), da (.int (two : Int)), s4] k = some (.nx [s0, s1, da (.int (two : Int)), da (.int ((one % two : Nat) : Int)), da y] k) := by
  have hz : ((two : Int) = 0) = False := by simp; omega
  refine ss_nx (ws_ifF (we_cmp rfl rfl (by rw [cmp_eqI, decide_eq_false (by omega)])) rfl) (ss_nx (ws_par (wo_two rfl (we_bin (we_blt (wa_one rfl) rfl) rfl (d := .int ((one % two : Nat) : Int)) ?_)) rfl) rfl)
  show (if (two : Int) = 0 then none else some (PyData.int ((one : Int).fmod (two : Int)))) = _
  rw [if_neg (by omega), Int.fmod_eq_emod_of_nonneg _ (by omega)]
  rfl
theorem f_loop {l : Nat} {k : KS} {s0 s1 : Sl} : ∀ (b one two : Nat) (ys : List PyData) (s4 : Sl), two < 2 ^ b → 2 * b ≤ ys.length → ∃ a4, forD (stF l) ys [s0, s1, da (.int (one : Int)), da (.int (two : Int)), s4] k = some (.nx [s0, s1, da (.int ((Nat.gcd one two : Nat) : Int)), da (.int ((0 : Nat) : Int)), a4] k)
  | 0, one, two, ys, s4, h, hy => by
    have : two = 0 := by simp at h; omega
    subst this
    rw [Nat.gcd_zero_right]
    exact f_end ys s4
  | b + 1, one, two, ys, s4, h, hy => by
    by_cases h0 : two = 0
    · subst h0
      rw [Nat.gcd_zero_right]
      exact f_end ys s4
    · obtain ⟨y1, ys1, rfl⟩ : ∃ y1 ys1, ys = y1 :: ys1 := by cases ys with | nil => simp at hy | cons a r => exact ⟨a, r, rfl⟩
      obtain ⟨y2, ys2, rfl⟩ : ∃ y1 ys2, ys1 = y1 :: ys2 := by cases ys1 with | nil => simp at hy; omega | cons a r => exact ⟨a, r, rfl⟩
      have g1 : Nat.gcd one two = Nat.gcd two (one % two) := by rw [Nat.gcd_comm one two, Nat.gcd_rec, Nat.gcd_comm]
      by_cases h1 : one % two = 0
      · rw [h1] at g1
        rw [g1, Nat.gcd_zero_right]
        obtain ⟨a4, e⟩ := f_end (l := l) (k := k) (s0 := s0) (s1 := s1) (one := two) (y2 :: ys2) (da y1)
        refine ⟨a4, ?_⟩
        rw [forD, f_step h0, h1]
        exact e
      · have g2 : Nat.gcd two (one % two) = Nat.gcd (one % two) (two % (one % two)) := by rw [Nat.gcd_comm two, Nat.gcd_rec, Nat.gcd_comm]
        have hlt := Nat.mod_lt one (show two > 0 by omega)
        have hlt2 := Nat.mod_lt two (show one % two > 0 by omega)
        have hh : two % (one % two) < 2 ^ b := by
          have : two % (one % two) + (one % two) ≤ two := by
            have e := Nat.div_add_mod two (one % two)
            have : 1 ≤ two / (one % two) := Nat.div_pos (by omega) (by omega)
            have := Nat.mul_le_mul_left (one % two) this
            omega
          rw [Nat.pow_succ] at h
          omega
        obtain ⟨a4, e⟩ := f_loop b (one % two) (two % (one % two)) ys2 (da y2) hh (by simp at hy; omega)
        refine ⟨a4, ?_⟩
        rw [g1, g2, forD, f_step h0, Option.bind_some]
        show forD _ _ _ _ = _
        rw [forD, f_step h1, Option.bind_some]
        exact e
theorem bits_pos {b : Int} (h : 0 < b) : bltD .bits [.int b] = some (.int ((b.natAbs.log2 : Int) + 1)) := by
  show some (PyData.int (if b = 0 then 0 else _)) = _
  rw [if_neg (by omega)]
theorem wi_rngB {Φ : Phi} {G : Glo} {e : CE} {env : DEnv} {k k1 : KS} {n : Nat} (he : den Φ G e true env k = some (.int (n : Int), k1)) (hn : rngOk (n : Int) = true) : denI Φ G (.rng e) env k = some ((List.range n).map fun i => (.int ((i : Nat) : Int) : PyData), k1) := by
  simp only [denI, he, Option.bind_some, hn, if_true, Int.toNat_natCast, rng_ints]
theorem bits_rng {b : Int} (hb : 0 < b) (hs : b.natAbs.log2 < 200000000) (l : Nat) (k : KS) (s0 s2 s3 s4 : Sl) : denI (Ph l) DnLib.G (.rng (.bin .add (.bin .mul (.int 2) (.blt .bits (.cons (.var 1) .nil))) (.int 3))) [s0, da (.int b), s2, s3, s4] k = some ((List.range (2 * (b.natAbs.log2 + 1) + 3)).map fun i => (.int ((i : Nat) : Int) : PyData), k) := by
  have e0 : bltD .bits [.int b] = some (.int ((b.natAbs.log2 : Int) + 1)) := bits_pos hb
  have ev : denA (Ph l) DnLib.G (.cons (.var 1) .nil) true [s0, da (.int b), s2, s3, s4] k = some ([.int b], k) := rfl
  generalize b.natAbs.log2 = g at hs e0 ⊢
  have hm : mulOk 2 ((g : Int) + 1) = true := mulOk_of (by decide) (by
    have e1 : ((g : Int) + 1).natAbs = g + 1 := by omega
    rw [e1]
    have h3 : g + 1 < 2 ^ 30 := by omega
    have := (Nat.log2_lt (show g + 1 ≠ 0 by omega)).mpr h3
    omega)
  have hd : den (Ph l) DnLib.G (.bin .add (.bin .mul (.int 2) (.blt .bits (.cons (.var 1) .nil))) (.int 3)) true [s0, da (.int b), s2, s3, s4] k = some (.int ((2 * (g + 1) + 3 : Nat) : Int), k) :=
    we_bin (x := .int (2 * ((g : Int) + 1))) (y := .int 3) (we_bin (x := .int 2) (y := .int ((g : Int) + 1)) rfl (we_blt ev e0) (by simp only [binD, hm, if_true])) rfl (by
      simp only [binD]
      rw [show (2 * ((g : Int) + 1) + 3) = ((2 * (g + 1) + 3 : Nat) : Int) by omega])
  have hrg : rngOk ((2 * (g + 1) + 3 : Nat) : Int) = true := by unfold rngOk; simp; omega
  exact wi_rngB hd hrg
theorem law_f_pos {a b : Int} (hb : 0 < b) (hs : b.natAbs.log2 < 200000000) (l : Nat) (k : KS) : ∃ f, denSs (Ph l) DnLib.G MW (.cons (.par [2, 3] (.cons (.blt .abs (.cons (.var 0) .nil)) (.cons (.var 1) .nil))) (.cons (.for_ (.one 4) (.rng (.bin .add (.bin .mul (.int 2) (.blt .bits (.cons (.var 1) .nil))) (.int 3))) fIn) (.cons (.ret (.tup (.cons (.bin .fdiv (.var 0) (.var 2)) (.cons (.bin .fdiv (.var 1) (.var 2)) .nil)))) .nil)))
    [da (.int a), da (.int b), .un, .un, .un] k = some (.rt (enc (Rat.divInt a b)) k f) := by
  have hb2 : b.natAbs < 2 ^ (b.natAbs.log2 + 1) := Nat.lt_log2_self
  obtain ⟨a4, e⟩ := f_loop (l := l) (k := k) (s0 := da (.int a)) (s1 := da (.int b)) (b.natAbs.log2 + 1) a.natAbs b.natAbs ((List.range (2 * (b.natAbs.log2 + 1) + 3)).map fun i => .int ((i : Nat) : Int)) .un hb2 (by simp)
  have eb : ((b.natAbs : Nat) : Int) = b := by omega
  rw [eb] at e
  have hg : Nat.gcd a.natAbs b.natAbs ≠ 0 := by
    have := Nat.gcd_pos_of_pos_right a.natAbs (show 0 < b.natAbs by omega)
    omega
  have hr := bits_rng hb hs l k (da (.int a)) (da (.int ((a.natAbs : Nat) : Int))) (da (.int b)) .un
  have habs : bltD .abs [.int a] = some (.int ((a.natAbs : Nat) : Int)) := by
    show some (PyData.int (if a < 0 then -a else a)) = _
    congr 2
    split <;> omega
  have hfd : ∀ x : Int, binD .fdiv (.int x) (.int ((Nat.gcd a.natAbs b.natAbs : Nat) : Int)) = some (.int (x.fdiv (Nat.gcd a.natAbs b.natAbs : Nat))) := fun x => by
    show (if ((Nat.gcd a.natAbs b.natAbs : Nat) : Int) = 0 then none else _) = _
    rw [if_neg (by omega)]
  rw [← enc_pos a b hb]
  exact ⟨_, ss_nx (ws_par (env' := [da (.int a), da (.int b), da (.int ((a.natAbs : Nat) : Int)), da (.int b), .un]) (wo_two (we_blt (wa_one rfl) habs) rfl) rfl)
    (ss_nx (ws_for hr e) (ss_rt (ws_ret (we_tup (wa_two (we_bin rfl rfl (hfd a)) (we_bin rfl rfl (hfd b)))))))⟩
theorem law_f (a b : Int) (hb : b ≠ 0) (hs : b.natAbs.log2 < 200000000) : At 1 146 [da (.int a), da (.int b)] (enc (Rat.divInt a b)) := At.of rfl rfl rfl fun l k hl => by
  rcases Int.lt_or_gt_of_ne hb with h | h
  · obtain ⟨f, e⟩ := law_f_pos (a := 0 - a) (b := 0 - b) (by omega) (by rw [show (0 - b).natAbs = b.natAbs by omega]; exact hs) l k
    rw [show (0 : Int) - a = -a by omega, show (0 : Int) - b = -b by omega, Rat.neg_divInt_neg] at e
    refine ⟨f, ss_nx (ws_ifT (we_cmp (d := true) rfl rfl (by show some (decide _) = _; rw [decide_eq_true h])) (ss_nx (ws_par (env' := [da (.int (-a)), da (.int (-b)), .un, .un, .un]) (wo_two (we_bin rfl rfl (by show some (PyData.int (0 - a)) = _; rw [show (0 : Int) - a = -a by omega])) (we_bin rfl rfl (by show some (PyData.int (0 - b)) = _; rw [show (0 : Int) - b = -b by omega]))) rfl) rfl)) e⟩
  · obtain ⟨f, e⟩ := law_f_pos (a := a) (b := b) h hs l k
    exact ⟨f, ss_nx (ws_ifF (we_cmp (d := false) rfl rfl (by show some (decide _) = _; rw [decide_eq_false (by omega)])) rfl) e⟩
theorem log2_mul {a b : Nat} (ha : a.log2 < 60000000) (hb : b.log2 < 60000000) : (a * b).log2 < 200000000 := by
  by_cases h0 : a * b = 0
  · rw [h0]; decide
  · have h1 : a < 2 ^ (a.log2 + 1) := Nat.lt_log2_self
    have h2 : b < 2 ^ (b.log2 + 1) := Nat.lt_log2_self
    have h3 : a * b < 2 ^ (a.log2 + 1) * 2 ^ (b.log2 + 1) := Nat.mul_lt_mul'' h1 h2
    rw [← Nat.pow_add] at h3
    have := (Nat.log2_lt h0).mpr h3
    omega
theorem den_log {p q : Rat} (hp : Sm p) (hq : Sm q) : ((p.den : Int) * (q.den : Int)).natAbs.log2 < 200000000 := by
  rw [Int.natAbs_mul, Int.natAbs_natCast, Int.natAbs_natCast]; exact log2_mul hp.2 hq.2
theorem ix0 {q : Rat} : idxD (enc q) (.int 0) = some (.int q.num) := rfl
theorem ix1 {q : Rat} : idxD (enc q) (.int 1) = some (.int q.den) := rfl
theorem mulD {i j : Int} (h1 : i.natAbs.log2 < 60000000) (h2 : j.natAbs.log2 < 60000000) : binD .mul (.int i) (.int j) = some (.int (i * j)) := by
  simp only [binD, mulOk_of h1 h2, if_true]
theorem law_add (p q : Rat) (hp : Sm p) (hq : Sm q) : At 2 147 [da (enc p), da (enc q)] (enc (p + q)) := At.of rfl rfl rfl fun l k hl => by
  have e := law_f (p.num * q.den + q.num * p.den) (p.den * q.den) (Int.mul_ne_zero (den_ne p) (den_ne q)) (den_log hp hq) l k hl
  have e2 : Rat.divInt (p.num * q.den + q.num * p.den) (p.den * q.den) = p + q := by rw [Rat.add_def', ← Rat.divInt_ofNat, Int.natCast_mul]
  rw [e2] at e
  exact ⟨_, ss_rt (ws_ret (we_call (wa_two (we_bin (we_bin (we_idx rfl rfl ix0) (we_idx rfl rfl ix1) (mulD hp.1 hq.2)) (we_bin (we_idx rfl rfl ix0) (we_idx rfl rfl ix1) (mulD hq.1 hp.2)) rfl) (we_bin (we_idx rfl rfl ix1) (we_idx rfl rfl ix1) (mulD hp.2 hq.2))) e))⟩
theorem law_sub (p q : Rat) (hp : Sm p) (hq : Sm q) : At 2 148 [da (enc p), da (enc q)] (enc (p - q)) := At.of rfl rfl rfl fun l k hl => by
  have e := law_f (p.num * q.den - q.num * p.den) (p.den * q.den) (Int.mul_ne_zero (den_ne p) (den_ne q)) (den_log hp hq) l k hl
  have e2 : Rat.divInt (p.num * q.den - q.num * p.den) (p.den * q.den) = p - q := by rw [Rat.sub_def', ← Rat.divInt_ofNat, Int.natCast_mul]
  rw [e2] at e
  exact ⟨_, ss_rt (ws_ret (we_call (wa_two (we_bin (we_bin (we_idx rfl rfl ix0) (we_idx rfl rfl ix1) (mulD hp.1 hq.2)) (we_bin (we_idx rfl rfl ix0) (we_idx rfl rfl ix1) (mulD hq.1 hp.2)) rfl) (we_bin (we_idx rfl rfl ix1) (we_idx rfl rfl ix1) (mulD hp.2 hq.2))) e))⟩
theorem law_mul (p q : Rat) (hp : Sm p) (hq : Sm q) : At 2 149 [da (enc p), da (enc q)] (enc (p * q)) := At.of rfl rfl rfl fun l k hl => by
  have e := law_f (p.num * q.num) (p.den * q.den) (Int.mul_ne_zero (den_ne p) (den_ne q)) (den_log hp hq) l k hl
  have e2 : Rat.divInt (p.num * q.num) (p.den * q.den) = p * q := by rw [Rat.mul_def', ← Rat.divInt_ofNat, Int.natCast_mul]
  rw [e2] at e
  exact ⟨_, ss_rt (ws_ret (we_call (wa_two (we_bin (we_idx rfl rfl ix0) (we_idx rfl rfl ix0) (mulD hp.1 hq.1)) (we_bin (we_idx rfl rfl ix1) (we_idx rfl rfl ix1) (mulD hp.2 hq.2))) e))⟩
theorem law_div (p q : Rat) (hp : Sm p) (hq : Sm q) (h0 : q ≠ 0) : At 2 150 [da (enc p), da (enc q)] (enc (p / q)) := At.of rfl rfl rfl fun l k hl => by
  have hz : q.num ≠ 0 := fun z => h0 (Rat.num_eq_zero.mp z)
  have e := law_f (p.num * q.den) (p.den * q.num) (Int.mul_ne_zero (den_ne p) hz) (by
    rw [Int.natAbs_mul, Int.natAbs_natCast]; exact log2_mul hp.2 hq.1) l k hl
  have e2 : Rat.divInt (p.num * q.den) (p.den * q.num) = p / q := by
    rw [← Rat.divInt_mul_divInt, Rat.num_divInt_den, Rat.div_def, ← Rat.inv_divInt, Rat.num_divInt_den]
  rw [e2] at e
  exact ⟨_, ss_rt (ws_ret (we_call (wa_two (we_bin (we_idx rfl rfl ix0) (we_idx rfl rfl ix1) (mulD hp.1 hq.2)) (we_bin (we_idx rfl rfl ix1) (we_idx rfl rfl ix0) (mulD hp.2 hq.1))) e))⟩
end Dn
set_option Elab.async false
set_option linter.all false
set_option maxRecDepth 100000
/-! DnM10: the law's own rows. -/
namespace Dn
open PySem
open P (Sg)
/-- where the last number other than 0 stands -/
structure Tm (f : List Rat) (i m : Nat) : Prop where
  le : m ≤ i
  z : ∀ j, m ≤ j → j < i → cf f j = 0
  nz : m = 0 ∨ cf f (m - 1) ≠ 0
theorem trim_id : ∀ f : List Rat, f = [] ∨ cf f (f.length - 1) ≠ 0 → trim f = f
  | [], _ => rfl
  | [a], h => by
    have : a ≠ 0 := by rcases h with h | h; · cases h
                       · exact h
    simp [trim, this]
  | a :: b :: f, h => by
    have ih := trim_id (b :: f) (.inr (by rcases h with h | h; · cases h
                                          · exact h))
    rw [trim, ih]
theorem Tm.fin {f : List Rat} {m : Nat} (h : Tm f f.length m) : trim f = f.take m := by
  have e : trim f = trim (f.take m) := trim_ext _ _ fun i => by
    rw [P.cf_take]
    by_cases hi : i < m
    · rw [if_pos hi]
    · rw [if_neg hi]
      by_cases h2 : i < f.length
      · exact h.z i (by omega) h2
      · exact cf_ge f i (by omega)
  rw [e]
  apply trim_id
  rcases h.nz with h0 | h0
  · left; rw [h0]; rfl
  · by_cases hm : m = 0
    · left; rw [hm]; rfl
    · right
      have hl : (f.take m).length = m := by rw [List.length_take]; have := h.le; omega
      rw [hl, P.cf_take, if_pos (by omega)]; exact h0
def trimIn : CSs := (.cons (.iff (.cmp .ne (.idx (.idx (.var 0) (.var 2)) (.int 0)) (.int 0)) (.cons (.asg 1 (.bin .add (.var 2) (.int 1))) .nil) .nil) .nil)
theorem num_ne {q : Rat} : cmpD .ne (.int q.num) (.int 0) = some (!decide (q = 0)) := by
  rw [cmp_neI]
  congr 2
  have : q.num = 0 ↔ q = 0 := Rat.num_eq_zero
  simp only [this]
theorem law_trim (f : List Rat) (hl : f.length < 10000) : At 1 151 [da (.list (f.map enc))] (encP (P.mk' f)) := At.of rfl rfl rfl fun l k hk => by
  obtain ⟨env', h1, m, s2, rfl, h3⟩ := for_rng (k := k) (N := f.length) (en := fun j => (.int ((j : Nat) : Int) : PyData))
    (f := fun x env k => (bindP (.one 2) x env).bind fun en => denSs (Ph l) DnLib.G MW trimIn en k)
    (fun i env => ∃ m s2, env = [da (.list (f.map enc)), da (.int ((m : Nat) : Int)), s2] ∧ Tm f i m)
    (fun i env hi ⟨m, s2, he, h3⟩ => by
      subst he
      by_cases hz : cf f i = 0
      · refine ⟨[da (.list (f.map enc)), da (.int ((m : Nat) : Int)), da (.int (i : Int))], ss_nx (ws_ifF (we_cmp (we_idx (we_idx rfl rfl (idx_lst hi)) rfl ix0) rfl (by rw [num_ne, decide_eq_true hz]; rfl)) rfl) rfl, m, _, rfl, by have := h3.le; omega, fun j h1 h2 => ?_, h3.nz⟩
        by_cases hj : j < i
        · exact h3.z j h1 hj
        · have : j = i := by omega
          rw [this]; exact hz
      · exact ⟨[da (.list (f.map enc)), da (.int ((i + 1 : Nat) : Int)), da (.int (i : Int))], ss_nx (ws_ifT (we_cmp (we_idx (we_idx rfl rfl (idx_lst hi)) rfl ix0) rfl (by rw [num_ne, decide_eq_false hz]; rfl)) (ss_nx (ws_asg (env' := [da (.list (f.map enc)), da (.int ((i + 1 : Nat) : Int)), da (.int (i : Int))]) (we_bin rfl rfl rfl) rfl) rfl)) rfl, i + 1, _, rfl, by omega, fun j h1 h2 => by omega, .inr hz⟩)
    [da (.list (f.map enc)), da (.int ((0 : Nat) : Int)), .un] ⟨0, .un, rfl, by omega, fun j h1 h2 => by omega, .inl rfl⟩
  have hm : m ≤ f.length := h3.le
  refine ⟨_, ss_nx (ws_asg (env' := [da (.list (f.map enc)), da (.int ((0 : Nat) : Int)), .un]) rfl rfl) (ss_nx (ws_for (wi_rng (we_blt (wa_one rfl) (len_lst f)) (by omega)) h1) (ss_rt (ws_ret (we_blt (d := encP (P.mk' f)) (ds := [.list ((f.take m).map enc)]) (wa_one ?_) ?_))))⟩
  · have hsl : slHD (.list (f.map enc)) (.int (m : Int)) = some (.list ((f.take m).map enc)) := by
      simp only [slHD, sIxD, List.length_map]
      rw [if_pos (by omega), Int.toNat_natCast, Nat.min_eq_left hm, List.map_take]
    show (den (Ph l) DnLib.G (.var 0) true [da (.list (f.map enc)), da (.int ((m : Nat) : Int)), s2] k).bind _ = _
    show (some (PyData.list (f.map enc), k)).bind _ = _
    simp only [Option.bind_some]
    show ((some (PyData.int (m : Int), k)).bind fun q => (slHD (.list (f.map enc)) q.1).map fun d => (d, q.2)) = _
    simp only [Option.bind_some, hsl, Option.map_some]
  · show some (PyData.tuple ((f.take m).map enc)) = some (encR (trim f))
    rw [h3.fin]; rfl
def plusIn : CSs := (.cons (.asg 4 (.ite (.cmp .lt (.var 3) (.blt .len (.cons (.var 0) .nil))) (.idx (.var 0) (.var 3)) (.tup (.cons (.int 0) (.cons (.int 1) .nil))))) (.cons (.app 2 (.ite (.cmp .lt (.var 3) (.blt .len (.cons (.var 1) .nil))) (.call 147 (.cons (.var 4) (.cons (.idx (.var 1) (.var 3)) .nil))) (.var 4))) .nil))
theorem ws_appO {Φ : Phi} {G : Glo} {n i : Nat} {e : CE} {env env' : DEnv} {k k1 : KS} {f : List Rat} {x : Rat} (he : den Φ G e false (freeze env (leakE e false)) k = some (enc x, k1))
    (hx : (freeze env (leakE e false))[i]? = some (ow f)) (hl : f.length < 9000) (hs : envSet (freeze env (leakE e false)) i (ow (f ++ [x])) = some env') : denS Φ G n (.app i e) env k = some (.nx env' k1) := by
  refine ws_app he hx (len_ok (by rw [List.length_map]; omega)) ?_
  rw [← List.map_singleton, ← List.map_append]; exact hs
theorem lt_nat (a b : Nat) : cmpD .lt (.int (a : Int)) (.int (b : Int)) = some (decide (a < b)) := by
  show some (decide ((a : Int) < (b : Int))) = _
  congr 1
  simp only [Int.ofNat_lt]
theorem law_plus (p q : P) (h : P.Ad p q) : At 3 152 [da (encP p), da (encP q)] (encP (p + q)) := At.of rfl rfl rfl fun l k hk => by
  obtain ⟨a, ha, hb, hab, hp, hq⟩ := h
  obtain ⟨env', h1, s3, s4, rfl⟩ := for_rng (k := k) (N := max p.len q.len) (en := fun j => (.int ((j : Nat) : Int) : PyData))
    (f := fun x env k => (bindP (.one 3) x env).bind fun en => denSs (Ph l) DnLib.G MW plusIn en k)
    (fun i env => ∃ s3 s4, env = [da (encP p), da (encP q), ow ((List.range i).map fun j => p.c j + q.c j), s3, s4])
    (fun i env hi ⟨s3, s4, he⟩ => by
      subst he
      have hr : (List.range (i + 1)).map (fun j => p.c j + q.c j) = (List.range i).map (fun j => p.c j + q.c j) ++ [p.c i + q.c i] := by rw [List.range_succ, List.map_append]; rfl
      have e4 : den (Ph l) DnLib.G (.ite (.cmp .lt (.var 3) (.blt .len (.cons (.var 0) .nil))) (.idx (.var 0) (.var 3)) (.tup (.cons (.int 0) (.cons (.int 1) .nil)))) false [da (encP p), da (encP q), ow ((List.range i).map fun j => p.c j + q.c j), da (.int (i : Int)), s4] k = some (enc (p.c i), k) := by
        by_cases h1 : i < p.len
        · exact we_iteT (we_cmp rfl (we_blt (wa_one rfl) (len_row p)) (by rw [lt_nat, decide_eq_true h1])) (we_idx rfl rfl (idx_tup h1))
        · rw [P.c_ge (p := p) (by omega)]
          exact we_iteF (we_cmp rfl (we_blt (wa_one rfl) (len_row p)) (by rw [lt_nat, decide_eq_false h1])) rfl
      have e5 : den (Ph l) DnLib.G (.ite (.cmp .lt (.var 3) (.blt .len (.cons (.var 1) .nil))) (.call 147 (.cons (.var 4) (.cons (.idx (.var 1) (.var 3)) .nil))) (.var 4)) false [da (encP p), da (encP q), ow ((List.range i).map fun j => p.c j + q.c j), da (.int (i : Int)), da (enc (p.c i))] k = some (enc (p.c i + q.c i), k) := by
        by_cases h1 : i < q.len
        · exact we_iteT (we_cmp rfl (we_blt (wa_one rfl) (len_row q)) (by rw [lt_nat, decide_eq_true h1])) (we_call (wa_two rfl (we_idx rfl rfl (idx_tup h1))) (law_add _ _ (Sm_of ha (by omega) i) (Sm_of hb (by omega) i) l k hk))
        · rw [P.c_ge (p := q) (by omega), show p.c i + 0 = p.c i by grind]
          exact we_iteF (we_cmp rfl (we_blt (wa_one rfl) (len_row q)) (by rw [lt_nat, decide_eq_false h1])) rfl
      refine ⟨[da (encP p), da (encP q), ow ((List.range (i + 1)).map fun j => p.c j + q.c j), da (.int (i : Int)), da (enc (p.c i))], ss_nx (ws_asg e4 rfl) (ss_nx (ws_appO e5 rfl (by rw [List.length_map, List.length_range]; omega) ?_) rfl), _, _, rfl⟩
      rw [hr]; rfl)
    [da (encP p), da (encP q), ow [], .un, .un] ⟨.un, .un, rfl⟩
  have e := law_trim ((List.range (max p.len q.len)).map fun j => p.c j + q.c j) (by rw [List.length_map, List.length_range]; omega) l k (by omega)
  have ep : P.mk' ((List.range (max p.len q.len)).map fun j => p.c j + q.c j) = p + q := P.ext fun i => by
    rw [P.c_mk, cf_range, P.c_add]
    by_cases hi : i < max p.len q.len
    · rw [if_pos hi]
    · rw [if_neg hi, P.c_ge (p := p) (by omega), P.c_ge (p := q) (by omega)]; grind
  rw [ep] at e
  exact ⟨_, ss_nx (ws_asg (env' := [da (encP p), da (encP q), ow [], .un, .un]) rfl rfl) (ss_nx (ws_for (wi_rng (we_blt (wa_two (we_blt (wa_one rfl) (len_row p)) (we_blt (wa_one rfl) (len_row q))) (max_nat _ _)) (by omega)) h1) (ss_rt (ws_ret (we_call (wa_one rfl) e))))⟩
theorem law_by {b : Nat} (p : P) (q : Rat) (hq : Sm q) (hp : P.Ht b p) (hb : b < 60000000) (hl : p.len < 10000) : At 3 153 [da (encP p), da (enc q)] (encP (P.C q * p)) := At.of rfl rfl rfl fun l k hn => by
  have e := law_trim (p.l.map (· * q)) (by rw [List.length_map]; exact hl) l k (by omega)
  have ep : P.mk' (p.l.map (· * q)) = P.C q * p := P.ext fun i => by
    rw [P.C_mul, P.c_mk]
    have := cf_smL q p.l i
    unfold smL at this
    rw [show p.l.map (· * q) = p.l.map (q * ·) from List.map_congr_left fun x _ => Rat.mul_comm x q]
    exact this
  rw [ep] at e
  refine ⟨_, ss_rt (ws_ret (we_call (wa_one (den_comp (en := enc) (g := enc ∘ (· * q)) (ys := p.l) rfl hl fun y hy => ⟨[da (encP p), da (enc q), da (enc y)], rfl, ?_⟩)) ?_))⟩
  · obtain ⟨i, hi, rfl⟩ := cf_mem hy
    exact we_call (wa_two rfl rfl) (law_mul _ q (Sm_of hp hb i) hq l k hn)
  · rw [← List.map_map]; exact e
theorem Sm_mone : Sm (-1) := by unfold Sm; decide
theorem law_less (p q : P) (h : P.Ad p q) : At 4 154 [da (encP p), da (encP q)] (encP (p - q)) := At.of rfl rfl rfl fun l k hk => by
  have h' := h
  obtain ⟨a, ha, hb, hab, hp, hq⟩ := h
  have t1 := law_by q (-1) Sm_mone hb (by omega) (by omega) l k hk
  rw [show P.C (-1) * q = -q by rw [P.C_neg, P.C_one]; grind] at t1
  have t2 := law_plus p (-q) ⟨a, ha, P.Ht_neg hb, hab, hp, by have := P.len_neg q; omega⟩ l k hk
  rw [show p + -q = p - q by grind] at t2
  exact ⟨_, ss_rt (ws_ret (we_call (wa_two rfl (we_call (wa_two rfl rfl) t1)) t2))⟩

def lmulIn : CSs := (.cons (.setI 2 (.bin .add (.var 3) (.var 4)) (.call 147 (.cons (.idx (.var 2) (.bin .add (.var 3) (.var 4))) (.cons (.call 149 (.cons (.idx (.var 0) (.var 3)) (.cons (.idx (.var 1) (.var 4)) .nil))) .nil)))) .nil)
def lmulBody : CSs := (.cons (.for_ (.one 4) (.rng (.blt .len (.cons (.var 1) .nil))) lmulIn) .nil)
theorem lmul_in {a b l i j : Nat} {p q : P} {k : KS} (ha : P.Ht a p) (hb : P.Ht b q) (hab : a + b ≤ 50000000) (hl : 2 ≤ l) (hi : i < p.len) (hj : j < q.len) {f : List Rat} (hf : f.length = p.len + q.len - 1) (hv : P.mk' f = P.MulV p q i j) :
    denSs (Ph l) DnLib.G MW lmulIn [da (encP p), da (encP q), ow f, da (.int (i : Int)), da (.int (j : Int))] k
      = some (.nx [da (encP p), da (encP q), ow (f.set (i + j) (cf f (i + j) + p.c i * q.c j)), da (.int (i : Int)), da (.int (j : Int))] k) := by
  have hij : i + j < f.length := by omega
  have t1 := law_mul (p.c i) (q.c j) (Sm_of ha (by omega) i) (Sm_of hb (by omega) j) l k hl
  have s1 : Sm (cf f (i + j)) := by
    have := P.MulV_Ht ha hb i j
    rw [← hv] at this
    exact Sm_mk this (by omega) _
  have t2 := law_add (cf f (i + j)) (p.c i * q.c j) s1 (Sm_C (P.MulV_x ha hb i j) (by omega)) l k hl
  refine ss_nx (ws_set (a := i + j) (j := ((i : Int) + (j : Int))) (we_call (wa_two (we_idx rfl (we_bin rfl rfl rfl) (idx_i hij (by omega))) (we_call (wa_two (we_idx rfl rfl (idx_tup hi)) (we_idx rfl rfl (idx_tup hj))) t1)) t2) rfl (we_bin rfl rfl rfl) ?_ ?_) rfl
  · rw [List.length_map, show (i : Int) + (j : Int) = ((i + j : Nat) : Int) by omega]
    exact ixD_nat hij
  · rw [map_set]; rfl
theorem lmul_out {a b l i : Nat} {p q : P} {k : KS} (ha : P.Ht a p) (hb : P.Ht b q) (hab : a + b ≤ 50000000) (hq : q.len ≤ 2000) (hl : 2 ≤ l) (hi : i < p.len) {f : List Rat} (hf : f.length = p.len + q.len - 1) (hv : P.mk' f = P.MulV p q i 0) {s4 : Sl} :
    ∃ f' a4, denSs (Ph l) DnLib.G MW lmulBody [da (encP p), da (encP q), ow f, da (.int (i : Int)), s4] k
      = some (.nx [da (encP p), da (encP q), ow f', da (.int (i : Int)), a4] k) ∧ f'.length = p.len + q.len - 1 ∧ P.mk' f' = P.MulV p q (i + 1) 0 := by
  obtain ⟨env', h1, f', a4, rfl, h3, h4⟩ := for_rng (k := k) (N := q.len) (en := fun j => (.int ((j : Nat) : Int) : PyData))
    (f := fun x env k => (bindP (.one 4) x env).bind fun en => denSs (Ph l) DnLib.G MW lmulIn en k)
    (fun j env => ∃ f' s4, env = [da (encP p), da (encP q), ow f', da (.int (i : Int)), s4] ∧ f'.length = p.len + q.len - 1 ∧ P.mk' f' = P.MulV p q i j)
    (fun j env hj ⟨f', s4, he, h3, h4⟩ => by
      subst he
      refine ⟨_, lmul_in ha hb hab hl hi hj h3 h4, _, _, rfl, by rw [List.length_set]; exact h3, ?_⟩
      rw [P.mk_set _ _ _ (by omega), h4, P.MulV_step p q i j hj]
      congr 3; grind)
    [da (encP p), da (encP q), ow f, da (.int (i : Int)), s4] ⟨f, s4, rfl, hf, hv⟩
  exact ⟨f', a4, ss_nx (ws_for (wi_rng (we_blt (wa_one rfl) (len_row q)) (by omega)) h1) rfl, h3, by rw [h4, P.MulV_row p q i hi]⟩
theorem max0b (a b : Nat) : bltD .max2 [.int 0, .int ((a : Int) + (b : Int) - 1)] = some (.int ((a + b - 1 : Nat) : Int)) := by
  show some (PyData.int (if ((a : Int) + (b : Int) - 1) > 0 then ((a : Int) + (b : Int) - 1) else 0)) = _
  congr 2
  split <;> omega
theorem law_times (p q : P) (h : P.Ml p q) : At 3 155 [da (encP p), da (encP q)] (encP (p * q)) := At.of rfl rfl rfl fun l k hl => by
  obtain ⟨a, b, ha, hb, hab, hp, hq⟩ := h
  obtain ⟨env', h1, f', s3, s4, rfl, h3, h4⟩ := for_rng (k := k) (N := p.len) (en := fun j => (.int ((j : Nat) : Int) : PyData))
    (f := fun x env k => (bindP (.one 3) x env).bind fun en => denSs (Ph l) DnLib.G MW lmulBody en k)
    (fun j env => ∃ f' s3 s4, env = [da (encP p), da (encP q), ow f', s3, s4] ∧ f'.length = p.len + q.len - 1 ∧ P.mk' f' = P.MulV p q j 0)
    (fun j env hj ⟨f', s3, s4, he, h3, h4⟩ => by
      subst he
      obtain ⟨f2, a4, e1, e2, e3⟩ := lmul_out (k := k) (s4 := s4) ha hb hab hq hl hj h3 h4
      exact ⟨_, e1, _, _, _, rfl, e2, e3⟩)
    [da (encP p), da (encP q), ow (List.replicate (p.len + q.len - 1) 0), .un, .un] ⟨_, _, _, rfl, List.length_replicate, by rw [P.mk_zeros, P.MulV_zero]⟩
  have e := law_trim f' (by omega) l k (by omega)
  rw [h4, P.MulV_end] at e
  refine ⟨_, ss_nx (ws_asg (env' := [da (encP p), da (encP q), ow (List.replicate (p.len + q.len - 1) 0), .un, .un]) (d := .list ((List.replicate (p.len + q.len - 1) (0 : Rat)).map enc)) (we_bin (we_lst (wa_one (d := enc 0) rfl)) (we_blt (wa_two rfl (we_bin (we_bin (we_blt (wa_one rfl) (len_row p)) (we_blt (wa_one rfl) (len_row q)) rfl) rfl rfl)) (max0b _ _)) ?_) rfl) (ss_nx (ws_for (wi_rng (we_blt (wa_one rfl) (len_row p)) (by omega)) h1) (ss_rt (ws_ret (we_call (wa_one rfl) e))))⟩
  rw [← zeros_enc]
  exact zeros_list _ (by omega) _ _ rfl
end Dn
set_option Elab.async false
set_option linter.all false
set_option maxRecDepth 100000
/-! DnM11: the law's own division, common divisor, base helm. -/
namespace Dn
open PySem
open P (Sg)
def ldivIn : CSs := (.cons (.setI 2 (.bin .add (.var 5) (.var 6)) (.call 148 (.cons (.idx (.var 2) (.bin .add (.var 5) (.var 6))) (.cons (.call 149 (.cons (.idx (.var 3) (.var 5)) (.cons (.idx (.var 1) (.var 6)) .nil))) .nil)))) .nil)
def ldivBody : CSs := (.cons (.asg 5 (.bin .sub (.bin .sub (.blt .len (.cons (.var 3) .nil)) (.int 1)) (.var 4))) (.cons (.setI 3 (.var 5) (.call 150 (.cons (.idx (.var 2) (.bin .sub (.bin .add (.var 5) (.blt .len (.cons (.var 1) .nil))) (.int 1))) (.cons (.idx (.var 1) (.neg (.int 1))) .nil)))) (.cons (.for_ (.one 6) (.rng (.blt .len (.cons (.var 1) .nil))) ldivIn) .nil)))
theorem ldiv_in {a b kk l s j : Nat} {f g : P} {k : KS} {left0 left found found0 : List Rat} {s4 : Sl} (hb : P.Ht b g) (hg : g ≠ 0) {K : Nat} (hK : K = f.len + 1 - g.len) (hK2 : K ≤ kk) (hab : a + kk * (b + 2) ≤ 50000000) (hl : 2 ≤ l) (hs : s < K) (hj : j < g.len)
    (h0 : P.DivI a b K f g (s + 1) left0 found0) (h : P.DivJ a b K f g s j left0 left found) :
    denSs (Ph l) DnLib.G MW ldivIn [da (encP f), da (encP g), ow left, ow found, s4, da (.int (s : Int)), da (.int (j : Int))] k
      = some (.nx [da (encP f), da (encP g), ow (left.set (s + j) (cf left (s + j) - cf found s * g.c j)), ow found, s4, da (.int (s : Int)), da (.int (j : Int))] k) := by
  have hgl := P.len_pos hg
  have hp := div_pow (s := s) hK2 hab
  have hij : s + j < left.length := by rw [h.ll]; omega
  have sz := (h0.size hb hg hs).1
  have e1 : Sm (cf found s) := by
    have := sz 1 0 (.inl rfl)
    rw [Rat.mul_one, ← h.fs] at this
    exact Sm_C this hp
  have hbm : b < 60000000 := by
    have : 1 * (b + 2) ≤ kk * (b + 2) := Nat.mul_le_mul_right _ (by omega)
    omega
  have t1 := law_mul (cf found s) (g.c j) e1 (Sm_of hb hbm j) l k hl
  have e2 : Sm (cf found s * g.c j) := by
    have := sz (g.c j) j (.inr rfl)
    rw [← h.fs] at this
    exact Sm_C this hp
  have t2 := law_sub (cf left (s + j)) (cf found s * g.c j) (Sm_mk h.ht hp _) e2 l k hl
  refine ss_nx (ws_set (a := s + j) (j := ((s : Int) + (j : Int))) (we_call (wa_two (we_idx rfl (we_bin rfl rfl rfl) (idx_i hij (by omega))) (we_call (wa_two (we_idx rfl rfl (idx_lst (by rw [h.fl]; exact hs))) (we_idx rfl rfl (idx_tup hj))) t1)) t2) rfl (we_bin rfl rfl rfl) ?_ ?_) rfl
  · rw [List.length_map, show (s : Int) + (j : Int) = ((s + j : Nat) : Int) by omega]
    exact ixD_nat hij
  · rw [map_set]; rfl
theorem ldiv_out {a b kk l s : Nat} {f g : P} {k : KS} {left found : List Rat} (hb : P.Ht b g) (hg : g ≠ 0) {K : Nat} (hK : K = f.len + 1 - g.len) (hK2 : K ≤ kk) (hab : a + kk * (b + 2) ≤ 50000000) (hl : 2 ≤ l) (hs : s < K) (hg2 : g.len ≤ 2000)
    (h : P.DivI a b K f g (s + 1) left found) {s5 s6 : Sl} : ∃ left' found' s5' s6', denSs (Ph l) DnLib.G MW ldivBody [da (encP f), da (encP g), ow left, ow found, da (.int ((K - 1 - s : Nat) : Int)), s5, s6] k
      = some (.nx [da (encP f), da (encP g), ow left', ow found', da (.int ((K - 1 - s : Nat) : Int)), s5', s6'] k) ∧ P.DivI a b K f g s left' found' := by
  have hgl := P.len_pos hg
  have hg0 : g.l ≠ [] := by
    intro z
    have : g.len = 0 := by unfold P.len; rw [z]; rfl
    omega
  have hp := div_pow (s := s) hK2 hab
  have hp1 := div_pow (s := s + 1) hK2 hab
  have hbm : b < 60000000 := by
    have : 1 * (b + 2) ≤ kk * (b + 2) := Nat.mul_le_mul_right _ (by omega)
    omega
  have t0 := law_div (cf left (s + g.len - 1)) g.lead (Sm_mk h.ht hp1 _) (Sm_of hb hbm (g.len - 1)) (P.lead_ne hg) l k hl
  obtain ⟨env', h1, left', s6', rfl, h3⟩ := for_rng (k := k) (N := g.len) (en := fun j => (.int ((j : Nat) : Int) : PyData))
    (f := fun x env k => (bindP (.one 6) x env).bind fun en => denSs (Ph l) DnLib.G MW ldivIn en k)
    (fun j env => ∃ left' s6, env = [da (encP f), da (encP g), ow left', ow (found.set s (cf left (s + g.len - 1) / g.lead)), da (.int ((K - 1 - s : Nat) : Int)), da (.int (s : Int)), s6] ∧ P.DivJ a b K f g s j left left' (found.set s (cf left (s + g.len - 1) / g.lead)))
    (fun j env hj ⟨left', s6, he, h3⟩ => by
      subst he
      exact ⟨_, ldiv_in hb hg hK hK2 hab hl hs hj h h3, _, _, rfl, h3.step h hb hg hs (by omega) hj⟩)
    [da (encP f), da (encP g), ow left, ow (found.set s (cf left (s + g.len - 1) / g.lead)), da (.int ((K - 1 - s : Nat) : Int)), da (.int (s : Int)), s6] ⟨left, s6, rfl, P.DivJ.start h hb hg hs⟩
  refine ⟨left', _, _, s6', ss_nx (ws_asg (env' := [da (encP f), da (encP g), ow left, ow found, da (.int ((K - 1 - s : Nat) : Int)), da (.int (s : Int)), s6]) (d := .int (s : Int)) (we_bin (we_bin (we_blt (wa_one rfl) (len_lst found)) rfl rfl) rfl ?_) rfl) (ss_nx (ws_set (a := s) (j := (s : Int)) (env' := [da (encP f), da (encP g), ow left, ow (found.set s (cf left (s + g.len - 1) / g.lead)), da (.int ((K - 1 - s : Nat) : Int)), da (.int (s : Int)), s6]) (we_call (wa_two (we_idx rfl (we_bin (we_bin rfl (we_blt (wa_one rfl) (len_row g)) rfl) rfl rfl) (idx_i (i := s + g.len - 1) (by rw [h.ll]; omega) (by omega))) (we_idx rfl neg_one (idx_end hg0))) t0) rfl rfl ?_ ?_) (ss_nx (ws_for (wi_rng (we_blt (wa_one rfl) (len_row g)) (by omega)) h1) rfl)), P.DivJ.fin h hg hs h3⟩
  · rw [h.fl]
    simp only [binD]
    congr 2
    omega
  · rw [List.length_map, h.fl]
    exact ixD_nat hs
  · rw [map_set]; rfl
theorem law_parted (f g q r : P) (h : P.Pt f g) (e : f = q * g + r) (hr : r.len < g.len) : At 3 156 [da (encP f), da (encP g)] (pr q r) := At.of rfl rfl rfl fun l k hl => by
  obtain ⟨hg, a, b, kk, ha, hb, hk, hab, hfl, hgl⟩ := h
  obtain ⟨env', h1, left, found, s4, s5, s6, rfl, h3⟩ := for_rng (k := k) (N := f.len + 1 - g.len) (en := fun j => (.int ((j : Nat) : Int) : PyData))
    (f := fun x env k => (bindP (.one 4) x env).bind fun en => denSs (Ph l) DnLib.G MW ldivBody en k)
    (fun t env => ∃ left found s4 s5 s6, env = [da (encP f), da (encP g), ow left, ow found, s4, s5, s6] ∧ P.DivI a b (f.len + 1 - g.len) f g (f.len + 1 - g.len - t) left found)
    (fun t env ht ⟨left, found, s4, s5, s6, he, h3⟩ => by
      subst he
      obtain ⟨s, hs⟩ : ∃ s, s + t + 1 = f.len + 1 - g.len := ⟨f.len + 1 - g.len - (t + 1), by omega⟩
      rw [show f.len + 1 - g.len - t = s + 1 by omega] at h3
      obtain ⟨left', found', s5', s6', e1, e2⟩ := ldiv_out (k := k) (s5 := s5) (s6 := s6) hb hg rfl (by omega) hab hl (show s < f.len + 1 - g.len by omega) (by omega) h3
      rw [show f.len + 1 - g.len - 1 - s = t by omega] at e1
      refine ⟨_, e1, _, _, _, _, _, rfl, ?_⟩
      rw [show f.len + 1 - g.len - (t + 1) = s by omega]
      exact e2)
    [da (encP f), da (encP g), ow f.l, ow (List.replicate (f.len + 1 - g.len) 0), .un, .un, .un] ⟨_, _, _, _, _, rfl, P.DivI.start ha hg⟩
  rw [Nat.sub_self] at h3
  have e1 := law_trim found (by rw [h3.fl]; omega) l k (by omega)
  have e2 := law_trim left (by rw [h3.ll]; omega) l k (by omega)
  have ef := P.DivI.fin hg h3 e hr
  rw [ef.1] at e1
  rw [ef.2] at e2
  refine ⟨_, ss_nx (ws_par (env' := [da (encP f), da (encP g), ow f.l, ow (List.replicate (f.len + 1 - g.len) 0), .un, .un, .un]) (ds := [(true, .list (f.l.map enc)), (true, .list ((List.replicate (f.len + 1 - g.len) (0 : Rat)).map enc))]) (wo_two (d2 := .list ((List.replicate (f.len + 1 - g.len) (0 : Rat)).map enc)) (we_blt (wa_one rfl) rfl) (we_bin (we_lst (wa_one (d := enc 0) rfl)) (we_blt (wa_two rfl (we_bin (we_bin (we_blt (wa_one rfl) (len_row f)) (we_blt (wa_one rfl) (len_row g)) rfl) rfl rfl)) (max0 _ _)) ?_)) rfl)
    (ss_nx (ws_for (wi_rng (n := f.len + 1 - g.len) (we_blt (wa_one rfl) ?_) (by omega)) h1) (ss_rt (ws_ret (we_tup (wa_two (we_call (wa_one rfl) e1) (we_call (wa_one rfl) e2))))))⟩
  · rw [← zeros_enc]
    exact zeros_list _ (by omega) _ _ rfl
  · have := len_lst (List.replicate (f.len + 1 - g.len) 0)
    rw [List.length_replicate] at this
    exact this
theorem law_quo (f g q r : P) (h : P.Pt f g) (e : f = q * g + r) (hr : r.len < g.len) {Φ : Phi} {l : Nat} (hΦ : Φ = Ph l) (hl : 3 ≤ l) {x y : CE} {m : Bool} {env : DEnv} {k k1 k2 : KS} (h1 : den Φ DnLib.G x false env k = some (encP f, k1)) (h2 : den Φ DnLib.G y false env k1 = some (encP g, k2)) :
    den Φ DnLib.G (.idx (.call 156 (.cons x (.cons y .nil))) (.int 0)) m env k = some (encP q, k2) := by
  subst hΦ
  exact we_idx (we_call (wa_two h1 h2) (law_parted f g q r h e hr l k2 hl)) rfl idx0
theorem law_rem (f g q r : P) (h : P.Pt f g) (e : f = q * g + r) (hr : r.len < g.len) {Φ : Phi} {l : Nat} (hΦ : Φ = Ph l) (hl : 3 ≤ l) {x y : CE} {m : Bool} {env : DEnv} {k k1 k2 : KS} (h1 : den Φ DnLib.G x false env k = some (encP f, k1)) (h2 : den Φ DnLib.G y false env k1 = some (encP g, k2)) :
    den Φ DnLib.G (.idx (.call 156 (.cons x (.cons y .nil))) (.int 1)) m env k = some (encP r, k2) := by
  subst hΦ
  exact we_idx (we_call (wa_two h1 h2) (law_parted f g q r h e hr l k2 hl)) rfl idx1
/-! lead -/
def leadIn : CSs := (.cons (.iff (.cmp .ne (.idx (.var 1) (.int 0)) (.int 0)) (.cons (.ret (.blt .tuple (.cons (.comp (.one 2) [2] (.seq (.var 0)) (.bl true) (.call 150 (.cons (.var 2) (.cons (.var 1) .nil)))) .nil))) .nil) .nil) .nil)
theorem lead_map {c : Rat} (hc : c ≠ 0) (p : P) : p.l.map (· / c) = (P.C (1 / c) * p).l := by
  have e : P.C (1 / c) * p = P.mk' (p.l.map (· / c)) := P.ext fun i => by
    rw [P.C_mul, P.c_mk]
    have := cf_smL (1 / c) p.l i
    unfold smL at this
    rw [show p.l.map (· / c) = p.l.map ((1 / c) * ·) from List.map_congr_left fun x _ => by grind, this]
    rfl
  rw [e]
  show _ = trim (p.l.map (· / c))
  refine (trim_id _ ?_).symm
  by_cases h0 : p = 0
  · left; rw [h0]; rfl
  · right
    have hl := P.lead_ne h0
    have hp := P.len_pos h0
    rw [List.length_map, cf_eq]
    have hp' : p.l.length - 1 < p.l.length := by unfold P.len at hp; omega
    have hc2 : (p.l.map (· / c)).getD (p.l.length - 1) 0 = p.lead / c := by
      show _ = cf p.l (p.l.length - 1) / c
      rw [cf_eq]
      simp [List.getD, hp']
    rw [hc2]; grind
theorem lead_loop {b l : Nat} {k : KS} (hl : 2 ≤ l) {p : P} (hp : P.Ht b p) (hb : b < 60000000) (hlen : p.len < 10000) : ∀ (ys : List Rat) (s1 s2 : Sl), (∀ y ∈ ys, Sm y) → P.lowL ys ≠ 0 → ∃ f,
    forD (fun x env k => (bindP (.one 1) x env).bind fun en => denSs (Ph l) DnLib.G MW leadIn en k) (ys.map enc) [da (encP p), s1, s2] k = some (.rt (encP (P.C (1 / P.lowL ys) * p)) k f)
  | [], s1, s2, _, h => absurd rfl h
  | y :: ys, s1, s2, hy, h => by
    have hc : cmpD .ne (.int y.num) (.int 0) = some (!decide (y = 0)) := num_ne
    unfold P.lowL at h ⊢
    by_cases h0 : y = 0
    · rw [if_pos h0] at h ⊢
      obtain ⟨f, e⟩ := lead_loop hl hp hb hlen ys (da (enc y)) s2 (fun z hz => hy z (List.mem_cons_of_mem _ hz)) h
      refine ⟨f, ?_⟩
      have e1 : denSs (Ph l) DnLib.G MW leadIn [da (encP p), da (enc y), s2] k = some (.nx [da (encP p), da (enc y), s2] k) :=
        ss_nx (ws_ifF (we_cmp (we_idx rfl rfl ix0) rfl (by rw [hc, decide_eq_true h0]; rfl)) rfl) rfl
      rw [List.map_cons, forD]
      show (denSs (Ph l) DnLib.G MW leadIn [da (encP p), da (enc y), s2] k).bind _ = _
      rw [e1]
      exact e
    · rw [if_neg h0] at h ⊢
      have hyS := hy y (List.mem_cons_self ..)
      have e1 : denSs (Ph l) DnLib.G MW leadIn [da (encP p), da (enc y), s2] k = some (.rt (encP (P.C (1 / y) * p)) k false) := by
        refine ss_rt (ws_ifT (we_cmp (we_idx rfl rfl ix0) rfl (by rw [hc, decide_eq_false h0]; rfl)) (ss_rt (ws_ret (we_blt (wa_one (den_comp (en := enc) (g := enc ∘ (· / y)) (ys := p.l) rfl hlen fun x hx => ⟨[da (encP p), da (enc y), da (enc x)], rfl, ?_⟩)) ?_))))
        · obtain ⟨i, hi, rfl⟩ := cf_mem hx
          exact we_call (wa_two rfl rfl) (law_div _ y (Sm_of hp hb i) hyS h0 l k hl)
        · show some (PyData.tuple (p.l.map (enc ∘ (· / y)))) = some (encR (P.C (1 / y) * p).l)
          rw [← List.map_map, lead_map h0]; rfl
      refine ⟨false, ?_⟩
      rw [List.map_cons, forD]
      show (denSs (Ph l) DnLib.G MW leadIn [da (encP p), da (enc y), s2] k).bind _ = _
      rw [e1]; rfl
theorem law_lead {b : Nat} (p : P) (h0 : p ≠ 0) (hp : P.Ht b p) (hb : b < 60000000) (hlen : p.len < 10000) : At 3 157 [da (encP p)] (encP (P.C (1 / p.low) * p)) := At.of rfl rfl rfl fun l k hl => by
  obtain ⟨f, e⟩ := lead_loop (k := k) hl hp hb hlen p.l .un .un (fun y hy => by obtain ⟨i, hi, rfl⟩ := cf_mem hy; exact Sm_of hp hb i) (P.low_ne h0)
  exact ⟨f, ss_rt (ws_for rfl e)⟩
/-! common divisors -/
theorem Eu_len {one two e f r e' : P} {t : Nat} (h : P.Eu one two e f r e' t) : t ≤ two.len := by
  induction h with
  | done => omega
  | step _ _ _ hr _ _ _ ih => omega
def comIn : CSs := (.cons (.iff (.cmp .eq (.var 1) (.tup .nil)) (.cons .brk .nil) .nil) (.cons (.par [0, 1] (.cons (.var 1) (.cons (.idx (.call 156 (.cons (.var 0) (.cons (.var 1) .nil))) (.int 1)) .nil))) .nil))
abbrev stC (l : Nat) : PyData → DEnv → KS → Option Res := fun x env k => (bindP (.one 2) x env).bind fun en => denSs (Ph l) DnLib.G MW comIn en k
theorem com_end {l : Nat} {k : KS} {one : P} : ∀ (ys : List PyData) (s2 : Sl), ∃ a2, forD (stC l) ys [da (encP one), da (encP 0), s2] k = some (.nx [da (encP one), da (encP 0), a2] k)
  | [], s2 => ⟨s2, rfl⟩
  | y :: ys, s2 => ⟨da y, by
    have e : stC l y [da (encP one), da (encP 0), s2] k = some (.bk [da (encP one), da (encP 0), da y] k) := by
      show denSs (Ph l) DnLib.G MW comIn [da (encP one), da (encP 0), da y] k = _
      exact ss_bk (ws_ifT (we_cmp rfl tup_nil (cmp_eqP 0 0)) (ss_bk rfl))
    simp only [forD, e, Option.bind_some]⟩
theorem com_loop {l : Nat} {k : KS} (hl : 3 ≤ l) {one two e f r e' : P} {t : Nat} (h : P.Eu one two e f r e' t) : ∀ (ys : List PyData) (s2 : Sl), t ≤ ys.length → ∃ a2,
    forD (stC l) ys [da (encP one), da (encP two), s2] k = some (.nx [da (encP r), da (encP 0), a2] k) := by
  induction h with
  | @done one e f => intro ys s2 _; exact com_end ys s2
  | @step one two e f q r one' e' t h0 hp e1 hr _ _ _ ih =>
    intro ys s2 hy
    obtain ⟨y, ys, rfl⟩ : ∃ y1 ys1, ys = y1 :: ys1 := by cases ys with | nil => simp at hy | cons a r => exact ⟨a, r, rfl⟩
    have e3 : stC l y [da (encP one), da (encP two), s2] k = some (.nx [da (encP two), da (encP r), da y] k) := by
      show denSs (Ph l) DnLib.G MW comIn [da (encP one), da (encP two), da y] k = _
      exact ss_nx (ws_ifF (we_cmp rfl tup_nil (by rw [cmp_eqP, decide_eq_false h0])) rfl) (ss_nx (ws_par (wo_two rfl (law_rem one two q r hp e1 hr rfl hl rfl rfl)) rfl) rfl)
    obtain ⟨a2, e4⟩ := ih ys (da y) (by simp at hy; omega)
    refine ⟨a2, ?_⟩
    simp only [forD, e3, Option.bind_some]
    exact e4
theorem law_common (p q g : P) (h : EuOk p q) (hg : P.IsG g p q) (lp : p.len ≤ 2000) (lq : q.len ≤ 2000) : At 4 158 [da (encP p), da (encP q)] (encP g) := At.of rfl rfl rfl fun l k hl => by
  obtain ⟨h0, r, e, t, h1, h2, h3, h4, h5, h6⟩ := h
  have hr := Eu_ne h1 h0
  have eg := P.IsG_unique hg (IsG_of h1 hr)
  have t2 := law_lead r hr h3 (by omega) (by omega) l k hl
  rw [← eg] at t2
  obtain ⟨a2, e9⟩ := com_loop (k := k) (show 3 ≤ l by omega) h1 ((List.range (p.len + q.len + 1)).map fun i => .int ((i : Nat) : Int)) .un (by
    have := Eu_len h1
    rw [List.length_map, List.length_range]; omega)
  exact ⟨_, ss_nx (ws_for (wi_rng (n := p.len + q.len + 1) (we_bin (we_bin (we_blt (wa_one rfl) (len_row p)) (we_blt (wa_one rfl) (len_row q)) rfl) rfl rfl) (by omega)) e9) (ss_rt (ws_ret (we_call (wa_one rfl) t2)))⟩
theorem unit_lit {Φ : Phi} {m : Bool} {env : DEnv} {k : KS} : den Φ DnLib.G (.tup (.cons (.tup (.cons (.int 1) (.cons (.int 1) .nil))) .nil)) m env k = some (encP 1, k) := by
  have : encP 1 = .tuple [enc 1] := by show encR (1 : P).l = _; rw [P.l_one]; rfl
  rw [this]; rfl
theorem law_core {n m h p w : P} (M : Mach n m h p w) : At 5 162 [da (pr (n * h) (m * h))] (.tuple [encP h, encP n, encP m]) := At.of rfl rfl rfl fun l k hl =>
  ⟨_, ss_nx (ws_asg (env' := [da (pr (n * h) (m * h)), da (encP h)]) (we_call (wa_two (we_idx rfl rfl idx0) (we_idx rfl rfl idx1)) (law_common _ _ h M.eu M.isG (by have := M.snh.2; omega) (by have := M.smh.2; omega) l k hl)) rfl)
    (ss_rt (ws_ret (we_tup (wa_cons rfl (wa_two
      (law_quo (n * h) h n 0 (M.snh.pt M.sh M.h0 (by omega) (by omega) (by omega)) (by grind) (P.len_pos M.h0) rfl (by omega) (we_idx rfl rfl idx0) rfl)
      (law_quo (m * h) h m 0 (M.smh.pt M.sh M.h0 (by omega) (by omega) (by omega)) (by grind) (P.len_pos M.h0) rfl (by omega) (we_idx rfl rfl idx1) rfl))))))⟩
/-! base helms -/
def lbIn : CSs := (.cons (.iff (.cmp .eq (.var 3) (.tup .nil)) (.cons .brk .nil) .nil) (.cons (.unp (.cons (.one 7) (.cons (.one 8) .nil)) (.call 156 (.cons (.var 2) (.cons (.var 3) .nil)))) (.cons (.par [2, 3, 4, 5] (.cons (.var 3) (.cons (.var 8) (.cons (.var 5) (.cons (.call 154 (.cons (.var 4) (.cons (.call 155 (.cons (.var 7) (.cons (.var 5) .nil))) .nil))) .nil))))) .nil)))
abbrev stB (l : Nat) : PyData → DEnv → KS → Option Res := fun x env k => (bindP (.one 6) x env).bind fun en => denSs (Ph l) DnLib.G MW lbIn en k
theorem lb_end {l : Nat} {k : KS} {s0 s1 s5 s7 s8 s9 : Sl} {one e : P} : ∀ (ys : List PyData) (s6 : Sl), ∃ a6, forD (stB l) ys [s0, s1, da (encP one), da (encP 0), da (encP e), s5, s6, s7, s8, s9] k = some (.nx [s0, s1, da (encP one), da (encP 0), da (encP e), s5, a6, s7, s8, s9] k)
  | [], s6 => ⟨s6, rfl⟩
  | y :: ys, s6 => ⟨da y, by
    have e : stB l y [s0, s1, da (encP one), da (encP 0), da (encP e), s5, s6, s7, s8, s9] k = some (.bk [s0, s1, da (encP one), da (encP 0), da (encP e), s5, da y, s7, s8, s9] k) := by
      show denSs (Ph l) DnLib.G MW lbIn [s0, s1, da (encP one), da (encP 0), da (encP e), s5, da y, s7, s8, s9] k = _
      exact ss_bk (ws_ifT (we_cmp rfl tup_nil (cmp_eqP 0 0)) (ss_bk rfl))
    simp only [forD, e, Option.bind_some]⟩
theorem lb_loop {l : Nat} {k : KS} (hl : 4 ≤ l) {s0 s1 s9 : Sl} {one two e f r e' : P} {t : Nat} (h : P.Eu one two e f r e' t) : ∀ (ys : List PyData) (s6 s7 s8 : Sl), t ≤ ys.length → ∃ a5 a6 a7 a8,
    forD (stB l) ys [s0, s1, da (encP one), da (encP two), da (encP e), da (encP f), s6, s7, s8, s9] k = some (.nx [s0, s1, da (encP r), da (encP 0), da (encP e'), a5, a6, a7, a8, s9] k) := by
  induction h with
  | @done one e f =>
    intro ys s6 s7 s8 _
    obtain ⟨a6, h⟩ := lb_end (l := l) (k := k) (s0 := s0) (s1 := s1) (s5 := da (encP f)) (s7 := s7) (s8 := s8) (s9 := s9) (one := one) (e := e) ys s6
    exact ⟨_, _, _, _, h⟩
  | @step one two e f q r one' e' t h0 hp e1 hr hm had _ ih =>
    intro ys s6 s7 s8 hy
    obtain ⟨y, ys, rfl⟩ : ∃ y1 ys1, ys = y1 :: ys1 := by cases ys with | nil => simp at hy | cons a r => exact ⟨a, r, rfl⟩
    have e3 : stB l y [s0, s1, da (encP one), da (encP two), da (encP e), da (encP f), s6, s7, s8, s9] k = some (.nx [s0, s1, da (encP two), da (encP r), da (encP f), da (encP (e - q * f)), da y, da (encP q), da (encP r), s9] k) := by
      show denSs (Ph l) DnLib.G MW lbIn [s0, s1, da (encP one), da (encP two), da (encP e), da (encP f), da y, s7, s8, s9] k = _
      exact ss_nx (ws_ifF (we_cmp rfl tup_nil (by rw [cmp_eqP, decide_eq_false h0])) rfl)
        (ss_nx (ws_unp (env' := [s0, s1, da (encP one), da (encP two), da (encP e), da (encP f), da y, da (encP q), da (encP r), s9]) (we_call (wa_two rfl rfl) (law_parted one two q r hp e1 hr l k (by omega))) rfl)
        (ss_nx (ws_par (wo_cons rfl (wo_cons rfl (wo_two rfl (we_call (wa_two rfl (we_call (wa_two rfl rfl) (law_times q f hm l k (by omega)))) (law_less e (q * f) had l k hl))))) rfl) rfl))
    obtain ⟨a5, a6, a7, a8, e4⟩ := ih ys (da y) (da (encP q)) (da (encP r)) (by simp at hy; omega)
    refine ⟨a5, a6, a7, a8, ?_⟩
    simp only [forD, e3, Option.bind_some]
    exact e4
theorem law_base (n m p w : P) (h : EuOk n m) (hb : P.Base n m p w) (sn : Sg 2000 60 n) (sm : Sg 2000 60 m) (sp : Sg 2000 60 p) : At 5 163 [da (encP n), da (encP m)] (pr p w) := At.of rfl rfl rfl fun l k hl => by
  obtain ⟨h0, r, e, t, h1, h2, h3, h4, h5, h6⟩ := h
  have hr := Eu_ne h1 h0
  have eg := P.IsG_unique (P.IsG_one ⟨p, w, by have := hb.eq; grind⟩) (IsG_of h1 hr)
  -- the last one is a number
  have hl1 := P.low_ne hr
  have hrC : r = P.C r.low := by
    have : P.C r.low * (P.C (1 / r.low) * r) = P.C r.low * 1 := by rw [← eg]
    have h2 : P.C r.low * P.C (1 / r.low) = 1 := by rw [← P.C_mulC, ← P.C_one]; congr 1; grind
    grind
  have hr0 : r.c 0 = r.low := by
    have : r.c 0 = (P.C r.low).c 0 := by rw [← hrC]
    rw [this, P.c_C0]
  have hs := low_Sm h3 (by omega)
  have t1 := law_div 1 r.low Sm_one hs hl1 l k (by omega)
  have t3 := law_by e (1 / r.low) (Sm_inv hs hl1) h4 (by omega) (by omega) l k (by omega)
  obtain ⟨c, hc⟩ := h1.cof n m ⟨0, by grind⟩ ⟨1, by grind⟩
  have s0 : Sg 24000000 1000 (P.C (1 / r.low) * e) := ⟨P.Ht_up (P.Ht_mul (P.Ht_lowinv h3 hr) h4) (by omega), by
    have := P.len_mul_le (P.C (1 / r.low)) e
    have := P.len_C (1 / r.low)
    omega⟩
  generalize hE : P.C (1 / r.low) * e = E at s0 t3
  have e1 : n * E + (P.C (1 / r.low) * c) * m = 1 := by rw [eg, hc, ← hE]; grind
  have e2 : E = (w * E - (P.C (1 / r.low) * c) * p) * m + p := by
    have := hb.eq
    grind
  have t6 := law_times n p (sn.ml sp (by omega) (by omega) (by omega)) l k (by omega)
  have t7 := law_less 1 (n * p) ((Sg.one 0 1 (by omega)).ad (sn.mul sp) (by omega) (by omega) (by omega)) l k (by omega)
  obtain ⟨a5, a6, a7, a8, e9⟩ := lb_loop (k := k) (s0 := da (encP n)) (s1 := da (encP m)) (s9 := .un) (show 4 ≤ l by omega) h1 ((List.range (n.len + m.len + 1)).map fun i => .int ((i : Nat) : Int)) .un .un .un (by
    have := Eu_len h1
    rw [List.length_map, List.length_range]; omega)
  have hr1 : 0 < r.len := P.len_pos hr
  have tn := sn.2
  have tm := sm.2
  exact ⟨_, ss_nx (ws_par (env' := [da (encP n), da (encP m), da (encP n), da (encP m), da (encP 1), da (encP 0), .un, .un, .un, .un]) (wo_cons rfl (wo_cons rfl (wo_two unit_lit tup_nil))) rfl)
    (ss_nx (ws_for (wi_rng (n := n.len + m.len + 1) (we_bin (we_bin (we_blt (wa_one rfl) (len_row n)) (we_blt (wa_one rfl) (len_row m)) rfl) rfl rfl) (by omega)) e9)
    (ss_nx (ws_asg (env' := [da (encP n), da (encP m), da (encP r), da (encP 0), da (encP e), a5, a6, a7, a8, da (encP p)]) (law_rem E m _ p (s0.pt sm hb.m0 (by omega) (by omega) (by omega)) e2 hb.lt rfl (by omega) (we_call (wa_two rfl (we_call (wa_two rfl (we_idx rfl rfl (idx_tup (i := 0) hr1))) (by rw [show cf r.l 0 = r.low from hr0]; exact t1))) t3) rfl) rfl)
    (ss_rt (ws_ret (we_tup (wa_two rfl (law_quo (1 - n * p) m w 0 (((Sg.one 0 1 (by omega)).sub (sn.mul sp)).pt sm hb.m0 (by omega) (by omega) (by omega)) (by have := hb.eq; grind) (P.len_pos hb.m0) rfl (by omega) (we_call (wa_two unit_lit (we_call (wa_two rfl rfl) t6)) t7) rfl)))))))⟩
theorem law_helm {n m p w : P} (h : EuOk n m) (hb : P.Base n m p w) (sn : Sg 200 30 n) (sm : Sg 200 30 m) (sp : Sg 1000 30 p) {g q a b : P} (hs : Sg 1000 60 g) (e : p * g = q * m + a) (hL : Least n m g a b) : At 6 165 [da (encP n), da (encP m), da (encP g)] (pr a b) := At.of rfl rfl rfl fun l k hl => by
  have spg : Sg 2000 89 (p * g) := (sp.mul hs).up (by omega) (by omega)
  have sa : Sg 30000 30 a := ⟨P.Ht_up (P.Ht_div (k := 90) spg.1 sm.1 (by have := spg.2; omega) e hL.lt).1 (by omega), by have := hL.lt; have := sm.2; omega⟩
  have t3 := law_times p g (sp.ml hs (by omega) (by omega) (by omega)) l k (by omega)
  have t5 := law_times n a (sn.ml sa (by omega) (by omega) (by omega)) l k (by omega)
  have t6 := law_less g (n * a) (hs.ad (sn.mul sa) (by omega) (by omega) (by omega)) l k (by omega)
  exact ⟨_, ss_nx (ws_unp (env' := [da (encP n), da (encP m), da (encP g), da (encP p), da (encP w), .un]) (we_call (wa_two rfl rfl) (law_base n m p w h hb (sn.up (by omega) (by omega)) (sm.up (by omega) (by omega)) (sp.up (by omega) (by omega)) l k (by omega))) rfl)
    (ss_nx (ws_asg (env' := [da (encP n), da (encP m), da (encP g), da (encP p), da (encP w), da (encP a)]) (law_rem (p * g) m q a (spg.pt sm hb.m0 (by omega) (by omega) (by omega)) e hL.lt rfl (by omega) (we_call (wa_two rfl rfl) t3) rfl) rfl)
    (ss_rt (ws_ret (we_tup (wa_two rfl (law_quo (g - n * a) m b 0 ((hs.sub (sn.mul sa)).pt sm hb.m0 (by omega) (by omega) (by omega)) (by have := hL.eq; grind) (P.len_pos hb.m0) rfl (by omega) (we_call (wa_two rfl (we_call (wa_two rfl rfl) t5)) t6) rfl))))))⟩
end Dn
set_option Elab.async false
set_option linter.all false
set_option maxRecDepth 100000
/-! DnP7: machines of drawn zeros: base helms with sizes. Plain Lean. -/
namespace Dn
namespace P
/-- a common denominator of a list's numbers -/
def lcmD (f : List Rat) : Nat := f.foldr (fun x d => Nat.lcm x.den d) 1
def htOk (b : Nat) (f : List Rat) : Bool := decide (1 ≤ lcmD f) && decide (lcmD f ≤ 2 ^ b) && f.all (fun x => decide ((x * (lcmD f : Rat)).den = 1)) && decide (n1L f * (lcmD f : Rat) ≤ ((2 ^ b : Nat) : Rat))
theorem zI_den {x : Rat} (h : x.den = 1) : zI x := ⟨x.num, by
  have e := Rat.num_divInt_den x
  rw [h] at e
  rw [← e]
  have : Rat.divInt (Rat.divInt x.num ((1 : Nat) : Int)).num 1 = Rat.divInt x.num 1 := by rw [e, show Rat.divInt x.num 1 = x from e]
  show Rat.divInt x.num 1 = _
  rw [show Rat.divInt x.num 1 = x from e, show (Rat.divInt x.num ((1 : Nat) : Int)).num = x.num by rw [e]]
  apply Rat.ext
  · rfl
  · rw [h]; rfl⟩
theorem Ht_of {b : Nat} {f : List Rat} (h : htOk b f = true) : Ht b (mk' f) := by
  unfold htOk at h
  simp only [Bool.and_eq_true, decide_eq_true_eq, List.all_eq_true] at h
  obtain ⟨⟨⟨h1, h2⟩, h3⟩, h4⟩ := h
  refine ⟨(lcmD f : Rat), zI_nat _, ?_, Rat.natCast_le_natCast.mpr h2, fun i => ?_, by rw [n1_mk]; exact h4⟩
  · have : ((1 : Nat) : Rat) ≤ (lcmD f : Rat) := Rat.natCast_le_natCast.mpr h1
    exact this
  · rw [c_mk]
    by_cases hi : i < f.length
    · have : cf f i ∈ f := by
        rw [cf_eq]
        have e : f.getD i 0 = f[i] := by simp [List.getD, hi]
        rw [e]; exact List.getElem_mem hi
      exact zI_den (h3 _ this)
    · rw [cf_ge f i (by omega), Rat.zero_mul]; exact zI_zero
/-- 1 + a d + b d d -/
def qd (a b : Rat) : P := mk' [1, a, b]
theorem qd_eq (a b : Rat) : qd a b = 1 + X * (C a + X * C b) := by
  unfold qd
  rw [mk_cons, mk_cons, mk_cons, mk_nil, C_one]; grind
theorem len_qd (a b : Rat) : (qd a b).len ≤ 3 := len_mk _
def lin (x : Rat) : P := mk' [1, -1 / x]
theorem lin_qd (x : Rat) : lin x = qd (-1 / x) 0 := by
  unfold lin
  rw [qd_eq, mk_cons, mk_cons, mk_nil, C_one, C_zero]
theorem len_lin (x : Rat) : (lin x).len ≤ 2 := len_mk _
/-- the first row's and the second one's share of 1 -/
def BzOk (a b : P) (le lf : Nat) : Prop := ∃ e f, e * a + f * b = 1 ∧ Sg 8 le e ∧ Sg 8 lf f
theorem BzOk.symm {a b : P} {le lf : Nat} (h : BzOk a b le lf) : BzOk b a lf le := by
  obtain ⟨e, f, h1, h2, h3⟩ := h
  exact ⟨f, e, by grind, h3, h2⟩
def linChk (z a b : Rat) : Bool := decide (1 + a * z + b * z * z ≠ 0) && htOk 8 [z * (a + b * z) / (1 + a * z + b * z * z), z * b / (1 + a * z + b * z * z)] && htOk 8 [1 / (1 + a * z + b * z * z)]
theorem BzOk_lin {z a b : Rat} (hz : z ≠ 0) (h : linChk z a b = true) : BzOk (lin z) (qd a b) (if b = 0 then 1 else 2) 1 := by
  unfold linChk at h
  simp only [Bool.and_eq_true, decide_eq_true_eq] at h
  obtain ⟨⟨h1, h2⟩, h3⟩ := h
  refine ⟨_, C (1 / (1 + a * z + b * z * z)), ?_, ⟨Ht_of h2, ?_⟩, ⟨Ht_of h3, len_C _⟩⟩
  · generalize hQ : 1 + a * z + b * z * z = Q at h1
    unfold lin
    rw [qd_eq, mk_cons, mk_cons, mk_nil, mk_cons, mk_cons, mk_nil, C_one]
    have e1 : C (z * (a + b * z) / Q) = C (1 / Q) * (C z * C a + C z * C z * C b) := by
      rw [← C_mulC, ← C_mulC, ← C_mulC, ← C_add, ← C_mulC]; congr 1; grind
    have e2 : C (z * b / Q) = C (1 / Q) * (C z * C b) := by rw [← C_mulC, ← C_mulC]; congr 1; grind
    have e3 : C z * C (-1 / z) = -1 := by rw [← C_mulC, ← C_one, ← C_neg]; congr 1; grind
    have e4 : C (1 / Q) * (1 + C a * C z + C b * C z * C z) = 1 := by
      rw [← hQ, ← C_mulC, ← C_mulC, ← C_mulC, ← C_one, ← C_add, ← C_add, ← C_mulC]; congr 1; rw [hQ]; grind
    rw [e1, e2]
    grind
  · by_cases hb : b = 0
    · rw [if_pos hb]
      refine len_le fun i hi => ?_
      rw [c_mk]
      match i, hi with
      | 1, _ => show z * b / _ = 0; rw [hb]; grind
      | i + 2, _ => exact cf_ge _ _ (by simp)
    · rw [if_neg hb]; exact len_mk _
theorem BzOk_X {a b : Rat} (h : htOk 8 [-a, -b] = true) : BzOk X (qd a b) (if b = 0 then 1 else 2) 1 := by
  refine ⟨_, 1, ?_, ⟨Ht_of h, ?_⟩, Sg.one 8 1 (by omega)⟩
  · rw [qd_eq, mk_cons, mk_cons, mk_nil, C_neg, C_neg]; grind
  · by_cases hb : b = 0
    · rw [if_pos hb]
      refine len_le fun i hi => ?_
      rw [c_mk]
      match i, hi with
      | 1, _ => show -b = 0; rw [hb]; grind
      | i + 2, _ => exact cf_ge _ _ (by simp)
    · rw [if_neg hb]; exact len_mk _

def prod (l : List P) : P := l.foldr (· * ·) 1
/-- a linear row beside a product -/
theorem bzA1 (a : P) : ∀ (B : List (P × Nat)), (∀ b ∈ B, BzOk a b.1 b.2 1 ∧ Sg 4 (b.2 + 1) b.1 ∧ 1 ≤ b.2) → B.length ≤ 3 → ∃ e f, e * a + f * prod (B.map (·.1)) = 1 ∧ Sg (B.length * (6 * B.length + 3)) (B.map (·.2)).sum e ∧ Sg (8 * B.length) 1 f ∧ Sg (4 * B.length) ((B.map (·.2)).sum + 1) (prod (B.map (·.1)))
  | [], _, _ => ⟨0, 1, by show 0 * a + 1 * 1 = 1; grind, Sg.zero _ _, Sg.one _ _ (by omega), Sg.one _ _ (by omega)⟩
  | b :: B, h, hl => by
    simp only [List.length_cons, List.map_cons, List.sum_cons] at hl ⊢
    obtain ⟨e, f, h1, h2, h3, h4⟩ := bzA1 a B (fun c hc => h c (List.mem_cons_of_mem _ hc)) (by omega)
    obtain ⟨⟨e2, f2, g1, g2, g3⟩, g4, g5⟩ := h b (List.mem_cons_self ..)
    have hm : Sg (4 * (B.length + 1)) (b.2 + (B.map (·.2)).sum + 1) (prod (b.1 :: B.map (·.1))) := (g4.mul h4).up (by omega) (by omega)
    refine ⟨e + f * prod (B.map (·.1)) * e2, f * f2, ?_, ?_, (h3.mul g3).up (by omega) (by omega), hm⟩
    · show _ + _ * (b.1 * prod (B.map (·.1))) = 1
      grind
    · have e9 : (B.length + 1) * (6 * (B.length + 1) + 3) = B.length * (6 * B.length + 3) + (12 * B.length + 9) := by grind
      rw [e9]
      exact (h2.add ((h3.mul h4).mul g2)).up (by omega) (by omega)
/-- a row of the degree 2 beside a product of linear ones -/
theorem bzA2 (a : P) : ∀ (B : List P), (∀ b ∈ B, BzOk a b 1 2 ∧ Sg 4 2 b) → B.length ≤ 3 → ∃ e f, e * a + f * prod B = 1 ∧ Sg (B.length * (6 * B.length + 3)) (2 * B.length) e ∧ Sg (8 * B.length) (B.length + 1) f ∧ Sg (4 * B.length) (B.length + 1) (prod B)
  | [], _, _ => ⟨0, 1, by show 0 * a + 1 * 1 = 1; grind, Sg.zero _ _, Sg.one _ _ (by omega), Sg.one _ _ (by omega)⟩
  | b :: B, h, hl => by
    simp only [List.length_cons] at hl ⊢
    obtain ⟨e, f, h1, h2, h3, h4⟩ := bzA2 a B (fun c hc => h c (List.mem_cons_of_mem _ hc)) (by omega)
    obtain ⟨⟨e2, f2, g1, g2, g3⟩, g4⟩ := h b (List.mem_cons_self ..)
    have hm : Sg (4 * (B.length + 1)) (B.length + 1 + 1) (prod (b :: B)) := (g4.mul h4).up (by omega) (by omega)
    refine ⟨e + f * prod B * e2, f * f2, ?_, ?_, (h3.mul g3).up (by omega) (by omega), hm⟩
    · show _ + _ * (b * prod B) = 1
      grind
    · have e9 : (B.length + 1) * (6 * (B.length + 1) + 3) = B.length * (6 * B.length + 3) + (12 * B.length + 9) := by grind
      rw [e9]
      exact (h2.add ((h3.mul h4).mul g2)).up (by omega) (by omega)
theorem bzB (m : P) (s l : Nat) : ∀ (A : List P), (∀ a ∈ A, ∃ e f, e * a + f * m = 1 ∧ Sg s (l + 1) e) → ∃ e f, e * prod A + f * m = 1 ∧ Sg (s * A.length) (l * A.length + 1) e
  | [], _ => ⟨1, 0, by show 1 * 1 + 0 * m = 1; grind, Sg.one _ _ (Nat.le_add_left _ _)⟩
  | a :: A, h => by
    obtain ⟨e, f, h1, h2⟩ := bzB m s l A (fun c hc => h c (List.mem_cons_of_mem _ hc))
    obtain ⟨e2, f2, g1, g2⟩ := h a (List.mem_cons_self ..)
    refine ⟨e2 * e, f2 + f * e2 * a, ?_, ?_⟩
    · show _ * (a * prod A) + _ = 1
      grind
    · refine (g2.mul h2).up ?_ ?_
      · rw [List.length_cons, Nat.mul_succ]; omega
      · rw [List.length_cons, Nat.mul_succ]; omega
theorem prod_Sg : ∀ (A : List P), (∀ a ∈ A, Sg 4 3 a) → Sg (4 * A.length) (2 * A.length + 1) (prod A)
  | [], _ => Sg.one _ _ (by omega)
  | a :: A, h => by
    have ih := prod_Sg A fun c hc => h c (List.mem_cons_of_mem _ hc)
    have ha := h a (List.mem_cons_self ..)
    exact (ha.mul ih).up (by simp only [List.length_cons]; omega) (by simp only [List.length_cons]; omega)
/-- a base helm with sizes -/
theorem base_ex {A B : List P} {g : Rat} (hA : A.length ≤ 5) (hB : B.length ≤ 3) (hg : g ≠ 0) (hg2 : Ht 3 (C g)) (hg3 : Ht 3 (C (1 / g))) (sA : ∀ a ∈ A, Sg 4 3 a) (sB : ∀ b ∈ B, Sg 4 3 b) (h : ∀ a ∈ A, ∃ e f, e * a + f * prod B = 1 ∧ Sg 63 4 e) (hm : prod B ≠ 0) :
    ∃ p w, Base (C g * prod A) (prod B) p w ∧ Sg 530 7 p ∧ Sg 780 18 w := by
  obtain ⟨e, f, h1, h2⟩ := bzB (prod B) 63 3 A h
  have sm := prod_Sg B sB
  have sn := prod_Sg A sA
  have hc : C g * C (1 / g) = 1 := by rw [← C_mulC, ← C_one]; congr 1; grind
  obtain ⟨q, p, d1, d2⟩ := div_ex' hm (C (1 / g) * e)
  have se : Sg 318 16 (C (1 / g) * e) := ⟨Ht_up (Ht_mul hg3 h2.1) (by omega), by
    have := len_mul_le (C (1 / g)) e
    have := len_C (1 / g)
    have := h2.2
    omega⟩
  have sm12 : Sg 12 7 (prod B) := sm.up (by omega) (by omega)
  have sn20 : Sg 23 11 (C g * prod A) := ⟨Ht_up (Ht_mul hg2 sn.1) (by omega), by
    have := len_mul_le (C g) (prod A)
    have := len_C g
    have := sn.2
    omega⟩
  have hpB := len_pos hm
  have sp : Sg 530 7 p := ⟨Ht_up (Ht_div (k := 16) se.1 sm12.1 (by have := se.2; omega) d1 d2).1 (by omega), by have := sm12.2; omega⟩
  refine ⟨p, f + C g * prod A * q, ⟨?_, d2⟩, sp, ?_⟩
  · have : p = C (1 / g) * e - q * prod B := by grind
    rw [this]; grind
  · have e1 : 1 - C g * prod A * p = (f + C g * prod A * q) * prod B + 0 := by
      have : p = C (1 / g) * e - q * prod B := by grind
      rw [this]; grind
    have s1 : Sg 554 18 (1 - C g * prod A * p) := ((Sg.one 0 1 (by omega)).sub (sn20.mul sp)).up (by omega) (by omega)
    have hd := (Ht_div (k := 16) s1.1 sm12.1 (by
      have h3 : (1 - C g * prod A * p).len ≤ max 1 (11 + p.len - 1) := by
        have := len_sub 1 (C g * prod A * p)
        have := len_mul_le (C g * prod A) p
        have := sn20.2
        rw [len_one] at *
        omega
      omega) e1 (by rw [len_zero]; exact hpB)).2
    refine ⟨Ht_up hd (by omega), ?_⟩
    by_cases hw : f + C g * prod A * q = 0
    · rw [hw, len_zero]; omega
    · have := (len_mul hw hm).1
      rw [show (f + C g * prod A * q) * prod B = 1 - C g * prod A * p by grind] at this
      have := s1.2
      omega
end P
end Dn
set_option Elab.async false
set_option linter.all false
set_option maxRecDepth 100000
/-! DnM12: draws. -/
namespace Dn
open PySem
open P (Sg)
/-- the cask after at most N counts -/
structure OkK (N : Nat) (k : KS) : Prop where
  a : 0 ≤ k.1
  b : 0 ≤ k.2.1
  b2 : k.2.1 < 2147483647
  c : 0 ≤ k.2.2
  c2 : k.2.2 ≤ N
theorem OkK.up {N M : Nat} {k : KS} (h : OkK N k) (hM : N ≤ M) : OkK M k := ⟨h.a, h.b, h.b2, h.c, by have := h.c2; omega⟩
section
variable {Φ : Phi} {G : Glo} {n : Nat}
theorem we_callC {f s : Nat} {a : CA} {m : Bool} {env : DEnv} {k k1 : KS} {ds : List PyData} {R : Option (PyData × KS)} (hs : env[s]? = some .csk) (ha : denA Φ G a false env k = some (ds, k1)) (h : Φ f (.csk :: ds.map (Sl.dat false)) k1 = R) : den Φ G (.callC f s a) m env k = R := by
  simp only [den, hs, ha, Option.bind_some, h]
theorem we_ck {s j : Nat} {m : Bool} {env : DEnv} {k : KS} {v : Int} (hs : env[s]? = some .csk) (hv : ckAt k j = some v) : den Φ G (.ck s j) m env k = some (.int v, k) := by
  simp only [den, hs, hv, Option.map_some]
theorem ws_ckS {s j : Nat} {e : CE} {env : DEnv} {k k1 k2 : KS} {v : Int} (he : den Φ G e false (freeze env (leakE e false)) k = some (.int v, k1)) (hs : (freeze env (leakE e false))[s]? = some .csk) (hv : ckSet k1 v j = some k2) : denS Φ G n (.ckS s j e) env k = some (.nx (freeze env (leakE e false)) k2) := by
  simp only [denS, he, Option.bind_some, hs, hv, Option.map_some]
theorem ws_ckD {s i : Nat} {e : CE} {env env' : DEnv} {k : KS} {t : Int} (hs : (freeze env (leakE e true))[s]? = some .csk) (he : den Φ G e true (freeze env (leakE e true)) k = some (.int t, k)) (ht : 0 < t) (ht2 : t < 1073741824) (hk : 0 ≤ k.1) (hsi : s ≠ i) (h : envSet (freeze env (leakE e true)) i (.dat false (.int (k.1 % t))) = some env') :
    denS Φ G n (.ckD s i e) env k = some (.nx env' (k.1 / t, k.2.1, k.2.2)) := by
  simp only [denS, hs, he, Option.bind_some, ht, hk, ht2, hsi, ne_eq, not_false_eq_true, decide_true, Bool.and_self, if_true, h, Option.map_some]
theorem ws_popA {i x : Nat} {ix : CE} {env en1 en2 : DEnv} {k k' : KS} {xs ys : List PyData} {j : Int} {a : Nat} {y : PyData} (hne : i ≠ x) (hx : (freeze env (leakE ix true))[x]? = some (.dat true (.list xs))) (hi : den Φ G ix true (freeze env (leakE ix true)) k = some (.int j, k'))
    (hr : rngOk j = true) (ha : ixD xs.length j = some a) (hy : xs[a]? = some y) (hys : (freeze env (leakE ix true))[i]? = some (.dat true (.list ys))) (hl : lenOk (ys.length + 1) = true)
    (e1 : envSet (freeze env (leakE ix true)) x (.dat true (.list (xs.eraseIdx a))) = some en1) (e2 : envSet en1 i (.dat true (.list (ys ++ [y]))) = some en2) : denS Φ G n (.popA i x ix) env k = some (.nx en2 k') := by
  simp only [denS, hne, if_false, hx, hi, Option.bind_some, hr, if_true, ha, hy, hys, hl, e1, e2, Option.map_some]
/-- turns that change the cask -/
theorem for_rngK {f : PyData → DEnv → KS → Option Res} {en : Nat → PyData} {N : Nat} (Inv : Nat → DEnv → KS → Prop) (step : ∀ i env k, i < N → Inv i env k → ∃ env' k', f (en i) env k = some (.nx env' k') ∧ Inv (i + 1) env' k') :
    ∀ env k, Inv 0 env k → ∃ env' k', forD f ((List.range N).map en) env k = some (.nx env' k') ∧ Inv N env' k' := by
  have key : ∀ m i env k, i + m = N → Inv i env k → ∃ env' k', forD f ((List.range' i m).map en) env k = some (.nx env' k') ∧ Inv N env' k' := by
    intro m
    induction m with
    | zero => intro i env k e h; exact ⟨env, k, rfl, by rw [← e]; exact h⟩
    | succ m ih =>
      intro i env k e h
      obtain ⟨env1, k1, h1, h2⟩ := step i env k (by omega) h
      obtain ⟨env2, k2, h3, h4⟩ := ih (i + 1) env1 k1 (by omega) h2
      exact ⟨env2, k2, by simp only [List.range'_succ, List.map_cons, forD, h1, Option.bind_some, h3], h4⟩
  intro env k h
  rw [List.range_eq_range']
  exact key N 0 env k (by omega) h
end
/-- a def that draws -/
theorem Ck.of {l id : Nat} {as : List Sl} {k k' : KS} {r : PyData} {f : Fn} {b : Bool} (hT : DnLib.T id = some f) (hp : as.all plainSl = true) (hl : as.length = f.pars) (h : denSs (Ph l) DnLib.G MW f.body (as ++ List.replicate (f.slots - f.pars) .un) k = some (.rt r k' b)) : Ph (l + 1) id as k = some (r, k') := by
  show phi MW DnLib.G DnLib.T (l + 1) id as k = _
  simp only [phi, hT, hp, if_true, runFn, hl]
  rw [show denSs (phi MW DnLib.G DnLib.T l) DnLib.G MW f.body (as ++ List.replicate (f.slots - f.pars) .un) k = some (.rt r k' b) from h]
  rfl
theorem small_mul {i j : Int} {a b : Nat} (h1 : i.natAbs < 2 ^ a) (h2 : j.natAbs < 2 ^ b) (ha : a < 1000) (hb : b < 1000) : binD .mul (.int i) (.int j) = some (.int (i * j)) := by
  have key : ∀ (n c : Nat), n < 2 ^ c → c < 1000 → n.log2 < 60000000 := fun n c hn hc => by
    by_cases h0 : n = 0
    · subst h0; decide
    · have := (Nat.log2_lt h0).mpr hn
      omega
  exact mulD (key _ a h1 ha) (key _ b h2 hb)
theorem fmod_pos {a b : Int} (hb : 0 < b) : binD .mod (.int a) (.int b) = some (.int (a % b)) := by
  show (if b = 0 then none else some (PyData.int (a.fmod b))) = _
  rw [if_neg (by omega), Int.fmod_eq_emod_of_nonneg _ (by omega)]
theorem fdiv_pos {a b : Int} (hb : 0 < b) : binD .fdiv (.int a) (.int b) = some (.int (a / b)) := by
  show (if b = 0 then none else some (PyData.int (a.fdiv b))) = _
  rw [if_neg (by omega), Int.fdiv_eq_ediv_of_nonneg _ (by omega)]
theorem tap {l N : Nat} {k : KS} {top : Int} (ht : 0 < top) (ht2 : top < 1073741824) (hk : OkK N k) (hN : N ≤ 1000000) (hl : 1 ≤ l) : ∃ (i : Nat) (k' : KS), Ph l 144 [.csk, da (.int top)] k = some (.int (i : Int), k') ∧ (i : Int) < top ∧ OkK (N + 1) k' := by
  obtain ⟨l', rfl⟩ : ∃ l', l = l' + 1 := ⟨l - 1, by omega⟩
  obtain ⟨k1, k2, k3⟩ := k
  have ha := hk.a
  have hb := hk.b
  have hb2 := hk.b2
  have hc := hk.c
  have hc2 := hk.c2
  simp only at ha hb hb2 hc hc2
  have c1 : ∀ {m : Bool} {env : DEnv}, env[0]? = some Sl.csk → den (Ph l') DnLib.G (.cmp .gt (.ck 0 0) (.int 0)) m env (k1, k2, k3) = some (.bool (decide (0 < k1)), (k1, k2, k3)) := fun {m env} he => we_cmp (we_ck he rfl) rfl rfl
  by_cases h0 : 0 < k1
  · have hm1 := Int.emod_nonneg k1 (show top ≠ 0 by omega)
    have hm2 := Int.emod_lt_of_pos k1 ht
    refine ⟨(k1 % top).toNat, (k1 / top, k2, k3), Ck.of (b := false) rfl rfl rfl ?_, by omega, ⟨Int.ediv_nonneg ha (by omega), hb, hb2, hc, by simp only; omega⟩⟩
    rw [show ((k1 % top).toNat : Int) = k1 % top by omega]
    have c1' := c1 (m := true) (env := [.csk, da (.int top), .un, .un]) rfl
    rw [decide_eq_true h0] at c1'
    exact ss_rt (ws_ifT c1' (ss_nx (ws_ckD (env' := [.csk, da (.int top), da (.int (k1 % top)), .un]) rfl rfl ht ht2 ha (by decide) rfl) (ss_rt (ws_ret rfl))))
  · have hm1 := Int.emod_nonneg ((k2 * (k2 % 40009 + 20021) + 60013 * (k3 + 1) + 5)) (show (2147483647 : Int) ≠ 0 by omega)
    have hm2 := Int.emod_lt_of_pos ((k2 * (k2 % 40009 + 20021) + 60013 * (k3 + 1) + 5)) (show (0 : Int) < 2147483647 by omega)
    generalize hs : (k2 * (k2 % 40009 + 20021) + 60013 * (k3 + 1) + 5) % 2147483647 = s at hm1 hm2
    have hq := Int.ediv_nonneg hm1 (show (0 : Int) ≤ 101 by omega)
    have hr1 := Int.emod_nonneg (s / 101) (show top ≠ 0 by omega)
    have hr2 := Int.emod_lt_of_pos (s / 101) ht
    have st1 := Int.emod_nonneg k2 (show (40009 : Int) ≠ 0 by omega)
    have st2 := Int.emod_lt_of_pos k2 (show (0 : Int) < 40009 by omega)
    refine ⟨(s / 101 % top).toNat, (k1, s, k3 + 1), Ck.of (b := false) rfl rfl rfl ?_, by omega, ⟨ha, hm1, by simp only; omega, by simp only; omega, by simp only; omega⟩⟩
    rw [show ((s / 101 % top).toNat : Int) = s / 101 % top by omega]
    have c1' := c1 (m := true) (env := [.csk, da (.int top), .un, .un]) rfl
    rw [decide_eq_false h0] at c1'
    refine ss_nx (ws_ifF c1' rfl)
      (ss_nx (ws_ckS (v := k3 + 1) (k2 := (k1, k2, k3 + 1)) (we_bin (we_ck rfl rfl) rfl rfl) rfl rfl)
      (ss_nx (ws_asg (env' := [.csk, da (.int top), .un, da (.int (k2 % 40009 + 20021))]) (we_bin (we_bin (x := .int k2) (we_blt (wa_one (we_ck rfl rfl)) rfl) rfl (fmod_pos (by omega))) rfl rfl) rfl)
      (ss_nx (ws_ckS (v := s) (k2 := (k1, s, k3 + 1)) (we_bin (x := .int (k2 * (k2 % 40009 + 20021) + 60013 * (k3 + 1) + 5)) (we_blt (wa_one (we_bin (we_bin (we_bin (we_ck rfl rfl) rfl (small_mul (i := k2) (j := k2 % 40009 + 20021) (a := 31) (b := 17) (by omega) (by omega) (by omega) (by omega))) (we_bin rfl (we_ck rfl rfl) (small_mul (i := 60013) (j := k3 + 1) (a := 16) (b := 21) (by decide) (by omega) (by omega) (by omega))) rfl) rfl rfl)) rfl) rfl (by rw [fmod_pos (by omega), hs])) rfl rfl)
      (ss_rt (ws_ret (we_bin (x := .int (s / 101)) (we_blt (wa_one (we_bin (we_ck rfl rfl) rfl (fdiv_pos (by omega)))) rfl) rfl (fmod_pos ht)))))))
theorem draw_of {l N : Nat} {k : KS} (xs : List PyData) (h0 : xs ≠ []) (hx : xs.length < 10000) (hk : OkK N k) (hN : N ≤ 1000000) (hl : 2 ≤ l) : ∃ (x : PyData) (k' : KS), x ∈ xs ∧ Ph l 145 [.csk, da (.list xs)] k = some (x, k') ∧ OkK (N + 1) k' := by
  obtain ⟨l', rfl⟩ : ∃ l', l = l' + 1 := ⟨l - 1, by omega⟩
  have hp := List.length_pos_iff.mpr h0
  obtain ⟨i, k', h1, h2, h3⟩ := tap (l := l') (top := (xs.length : Int)) (by omega) (by omega) hk hN (by omega)
  have hi : i < xs.length := by omega
  refine ⟨xs[i], k', List.getElem_mem hi, Ck.of (b := false) rfl rfl rfl (ss_rt (ws_ret (we_idx (y := .int (i : Int)) (x := .list xs) rfl (we_callC rfl (wa_one (we_blt (wa_one rfl) rfl)) h1) ?_))), h3⟩
  simp only [idxD, ixD_nat hi, Option.bind_some]
  exact List.getElem?_eq_getElem hi
end Dn
set_option Elab.async false
set_option linter.all false
set_option maxRecDepth 100000
/-! DnM13: steady rows drawn by bends. -/
namespace Dn
open PySem
open P (Sg)
theorem erase_perm : ∀ (l : List Rat) (i : Nat), i < l.length → (cf l i :: l.eraseIdx i).Perm l
  | [], i, h => by simp at h
  | a :: l, 0, h => List.Perm.refl _
  | a :: l, i + 1, h => by
    rw [List.eraseIdx_cons_succ, cf_succ]
    exact (List.Perm.swap _ _ _).trans ((erase_perm l i (by simpa using h)).cons a)
theorem cf_app : ∀ (f g : List Rat) (i : Nat), cf (f ++ g) i = if i < f.length then cf f i else cf g (i - f.length)
  | [], g, i => by simp
  | a :: f, g, 0 => by simp
  | a :: f, g, i + 1 => by
    rw [List.cons_append, cf_succ, cf_succ, cf_app f g i]
    simp only [List.length_cons, Nat.add_lt_add_iff_right, Nat.add_sub_add_right]
theorem cf_app0 (f : List Rat) (i : Nat) : cf (f ++ [0]) i = cf f i := by
  rw [cf_app]
  by_cases h : i < f.length
  · rw [if_pos h]
  · rw [if_neg h, cf_ge f i (by omega)]
    cases i - f.length with
    | zero => rfl
    | succ j => rfl
theorem n1L_app : ∀ f g : List Rat, n1L (f ++ g) = n1L f + n1L g
  | [], g => by simp only [List.nil_append, n1L]; grind
  | a :: f, g => by simp only [List.cons_append, n1L, n1L_app f g]; grind
theorem n1L_rev : ∀ f : List Rat, n1L f.reverse = n1L f
  | [] => rfl
  | a :: f => by rw [List.reverse_cons, n1L_app, n1L_rev f]; simp only [n1L]; grind
theorem cf_rev (f : List Rat) (i : Nat) : cf f.reverse i = if i < f.length then cf f (f.length - 1 - i) else 0 := by
  by_cases h : i < f.length
  · rw [if_pos h, cf_eq, cf_eq]
    simp only [List.getD_eq_getElem?_getD]
    rw [List.getElem?_reverse h]
  · rw [if_neg h, cf_ge]; simp; omega
/-- the row led on by a bend -/
def bendL (S : List Rat) (b : Rat) : List Rat := (List.range (S.length + 1)).map fun i => cf (S ++ [0]) i + b * cf (S ++ [0]) (S.length - i)
inductive Bent : Nat → List Rat → Prop
  | one : Bent 0 [1]
  | step {t : Nat} {S : List Rat} {b : Rat} : Bent t S → ab b < 1 → P.Ht 3 (P.C b) → Bent (t + 1) (bendL S b)
theorem bendL_len (S : List Rat) (b : Rat) : (bendL S b).length = S.length + 1 := by unfold bendL; simp
theorem Bent.len {t : Nat} {S : List Rat} (h : Bent t S) : S.length = t + 1 := by
  induction h with
  | one => rfl
  | step _ _ _ ih => rw [bendL_len, ih]
theorem bendL_mk (S : List Rat) (b : Rat) : P.mk' (bendL S b) = P.mk' S + P.C b * (P.X * P.mk' S.reverse) := P.ext fun i => by
  rw [P.c_add, P.C_mul, P.c_mk, P.c_mk]
  unfold bendL
  rw [cf_range]
  cases i with
  | zero =>
    rw [if_pos (by omega), P.X_mul0, cf_app0, cf_app0, Nat.sub_zero, cf_ge S S.length (by omega)]
  | succ i =>
    rw [P.X_mulS, P.c_mk, cf_rev]
    by_cases h : i < S.length
    · rw [if_pos (by omega), if_pos h, cf_app0, cf_app0, show S.length - (i + 1) = S.length - 1 - i by omega]
    · rw [if_neg (by omega), if_neg h, cf_ge S (i + 1) (by omega)]; grind
theorem Bent.c0 {t : Nat} {S : List Rat} (h : Bent t S) : cf S 0 = 1 := by
  induction h with
  | one => rfl
  | @step t S b _ _ _ ih =>
    have := congrArg (fun p => P.c p 0) (bendL_mk S b)
    simp only [P.c_add, P.C_mul, P.c_mk, P.X_mul0, ih] at this
    rw [this]; grind
theorem H_rev {D A : Rat} {S : List Rat} (h : P.H D A (P.mk' S)) : P.H D A (P.mk' S.reverse) := by
  obtain ⟨h1, h2, h3, h4, h5⟩ := h
  refine ⟨h1, h2, h3, fun i => ?_, ?_⟩
  · rw [P.c_mk, cf_rev]
    split
    · rw [← P.c_mk]; exact h4 _
    · rw [Rat.zero_mul]; exact P.zI_zero
  · rw [P.n1_mk, n1L_rev, ← P.n1_mk]; exact h5
theorem bendL_Ht {a : Nat} {S : List Rat} {b : Rat} (h : P.Ht a (P.mk' S)) (hb : P.Ht 3 (P.C b)) : P.Ht (a + 4) (P.mk' (bendL S b)) := by
  obtain ⟨D, h⟩ := h
  obtain ⟨E, hb⟩ := hb
  rw [bendL_mk]
  have hX := P.H_Xk (H_rev h) 1
  rw [show P.X ^ 1 * P.mk' S.reverse = P.X * P.mk' S.reverse by rw [Lean.Grind.Semiring.pow_succ, Lean.Grind.Semiring.pow_zero]; grind] at hX
  have e1 := P.H_mul hX hb
  rw [show P.X * P.mk' S.reverse * P.C b = P.C b * (P.X * P.mk' S.reverse) by grind, ← P.pow_add] at e1
  refine (P.Ht_add' (a := a + 3) ⟨D * E, ?_, e1⟩).1
  obtain ⟨h1, h2, h3, h4, h5⟩ := h
  obtain ⟨g1, g2, g3, g4, g5⟩ := hb
  rw [P.pow_add]
  refine ⟨P.zI_mul h1 g1, ?_, mul_mono h3 g3 (by grind) (by grind), P.I_sc h4 g1, ?_⟩
  · have := mul_mono h2 g2 (by grind) (by grind); grind
  · have := mul_mono h5 g3 (by grind) (by grind); grind
theorem Bent.ht {t : Nat} {S : List Rat} (h : Bent t S) : P.Ht (4 * t) (P.mk' S) := by
  induction h with
  | one => exact P.Ht_one 0
  | @step t S b _ _ hb ih => exact P.Ht_up (bendL_Ht ih hb) (by omega)
theorem bendL_last {t : Nat} {S : List Rat} {b : Rat} (h : Bent t S) : cf (bendL S b) ((bendL S b).length - 1) = b := by
  rw [bendL_len]
  unfold bendL
  rw [cf_range, if_pos (by omega), Nat.add_sub_cancel, cf_app0, cf_app0, cf_ge S S.length (by omega), Nat.sub_self, h.c0]; grind
def bendMenu : List Rat := [1/2, -1/3, 2/3, -1/2, 1/5, -3/4]
def bendChk (b : Rat) : Bool := decide (ab b < 1) && decide (b.num.natAbs ≤ 2 ^ 3) && decide (b.den ≤ 2 ^ 3)
theorem bend_ok : ∀ b ∈ bendMenu ++ [0], ab b < 1 ∧ P.Ht 3 (P.C b) := by
  have h : (bendMenu ++ [0]).all bendChk = true := by decide +kernel
  intro b hb
  have := List.all_eq_true.mp h b hb
  unfold bendChk at this
  simp only [Bool.and_eq_true, decide_eq_true_eq] at this
  exact ⟨this.1.1, P.Ht_C this.1.2 this.2⟩
theorem bend_ne : ∀ b ∈ bendMenu, b ≠ 0 := by
  have h : bendMenu.all (fun b => decide (b ≠ 0)) = true := by decide +kernel
  intro b hb
  simpa using List.all_eq_true.mp h b hb
def menuCode : CE := (.lst (.cons (.tup (.cons (.int 1) (.cons (.int 2) .nil))) (.cons (.tup (.cons (.bin .sub (.int 0) (.int 1)) (.cons (.int 3) .nil))) (.cons (.tup (.cons (.int 2) (.cons (.int 3) .nil))) (.cons (.tup (.cons (.bin .sub (.int 0) (.int 1)) (.cons (.int 2) .nil))) (.cons (.tup (.cons (.int 1) (.cons (.int 5) .nil))) (.cons (.tup (.cons (.bin .sub (.int 0) (.int 3)) (.cons (.int 4) .nil))) .nil)))))))
theorem menu_den {Φ : Phi} {G : Glo} {m : Bool} {env : DEnv} {k : KS} : den Φ G menuCode m env k = some (.list (bendMenu.map enc), k) := by kernel_rfl
def steadyIn : CSs := (.cons (.asg 4 menuCode) (.cons (.par [5, 6] (.cons (.callC 145 0 (.cons (.ite (.cmp .eq (.var 3) (.bin .sub (.var 1) (.int 1))) (.var 4) (.bin .add (.var 4) (.lst (.cons (.tup (.cons (.int 0) (.cons (.int 1) .nil))) .nil)))) .nil)) (.cons (.blt .len (.cons (.var 2) .nil)) .nil))) (.cons (.asg 7 (.bin .add (.var 2) (.lst (.cons (.tup (.cons (.int 0) (.cons (.int 1) .nil))) .nil)))) (.cons (.asg 2 (.comp (.one 8) [8] (.rng (.bin .add (.var 6) (.int 1))) (.bl true) (.call 147 (.cons (.idx (.var 7) (.var 8)) (.cons (.call 149 (.cons (.var 5) (.cons (.idx (.var 7) (.bin .sub (.var 6) (.var 8))) .nil))) .nil))))) .nil))))
theorem add_lit {f : List Rat} (hl : f.length < 9000) : binD .add (.list (f.map enc)) (.list [.tuple [.int 0, .int 1]]) = some (.list ((f ++ [0]).map enc)) := by
  simp only [binD]
  rw [List.length_map, List.length_singleton, if_pos (len_ok (by omega)), List.map_append]; rfl
theorem steady_in {l N t : Nat} {k : KS} {many : Nat} {S : List Rat} (hS : Bent t S) (ht : t < 100) (hk : OkK N k) (hN : N ≤ 1000000) (hl : 4 ≤ l) {s4 s5 s6 s7 s8 : Sl} : ∃ (b : Rat) (a4 a5 a6 a7 a8 : Sl) (k' : KS),
    denSs (Ph l) DnLib.G MW steadyIn [.csk, da (.int (many : Int)), ow S, da (.int (t : Int)), s4, s5, s6, s7, s8] k = some (.nx [.csk, da (.int (many : Int)), ow (bendL S b), da (.int (t : Int)), a4, a5, a6, a7, a8] k') ∧ OkK (N + 1) k' ∧ ab b < 1 ∧ P.Ht 3 (P.C b) ∧ (t + 1 = many → b ≠ 0) := by
  have hlen := hS.len
  -- the menu drawn from
  have hd : ∃ xs : List Rat, den (Ph l) DnLib.G (.ite (.cmp .eq (.var 3) (.bin .sub (.var 1) (.int 1))) (.var 4) (.bin .add (.var 4) (.lst (.cons (.tup (.cons (.int 0) (.cons (.int 1) .nil))) .nil)))) false [.csk, da (.int (many : Int)), ow S, da (.int (t : Int)), da (.list (bendMenu.map enc)), s5, s6, s7, s8] k = some (.list (xs.map enc), k)
      ∧ xs ≠ [] ∧ xs.length < 10000 ∧ (∀ b ∈ xs, ab b < 1 ∧ P.Ht 3 (P.C b)) ∧ (t + 1 = many → ∀ b ∈ xs, b ≠ 0) := by
    by_cases h : t + 1 = many
    · refine ⟨bendMenu, we_iteT (we_cmp (d := true) rfl (we_bin (d := .int ((many : Int) - 1)) rfl rfl rfl) (by rw [cmp_eqI, decide_eq_true (by omega)])) rfl, by decide, by decide, fun b hb => bend_ok b (List.mem_append_left _ hb), fun _ => bend_ne⟩
    · refine ⟨bendMenu ++ [0], we_iteF (we_cmp (d := false) rfl (we_bin (d := .int ((many : Int) - 1)) rfl rfl rfl) (by rw [cmp_eqI, decide_eq_false (by omega)])) (we_bin rfl rfl (add_lit (by decide))), by decide, by decide, bend_ok, fun h2 => absurd h2 h⟩
  obtain ⟨xs, d1, d2, d3, d4, d5⟩ := hd
  obtain ⟨x, k', hx, hof, hk'⟩ := draw_of (l := l) (xs.map enc) (by simpa using d2) (by rw [List.length_map]; exact d3) hk hN (by omega)
  obtain ⟨b, hb, rfl⟩ := List.mem_map.mp hx
  obtain ⟨hb1, hb2⟩ := d4 b hb
  have hht := hS.ht
  have hcomp : den (Ph l) DnLib.G (.comp (.one 8) [8] (.rng (.bin .add (.var 6) (.int 1))) (.bl true) (.call 147 (.cons (.idx (.var 7) (.var 8)) (.cons (.call 149 (.cons (.var 5) (.cons (.idx (.var 7) (.bin .sub (.var 6) (.var 8))) .nil))) .nil)))) false
      [.csk, da (.int (many : Int)), ow S, da (.int (t : Int)), da (.list (bendMenu.map enc)), da (enc b), da (.int ((S.length : Nat) : Int)), ow (S ++ [0]), s8] k' = some (.list ((bendL S b).map enc), k') := by
    unfold bendL
    rw [List.map_map]
    refine den_comp (en := fun i => .int ((i : Nat) : Int)) (ys := List.range (S.length + 1)) (wi_rng (n := S.length + 1) (we_bin rfl rfl rfl) (by omega)) (by simp; omega) fun i hi => ⟨[.csk, da (.int (many : Int)), ow S, da (.int (t : Int)), da (.list (bendMenu.map enc)), da (enc b), da (.int ((S.length : Nat) : Int)), ow (S ++ [0]), da (.int (i : Int))], rfl, ?_⟩
    have hi2 : i < S.length + 1 := by simpa using hi
    have hw : ∀ j, Sm (cf (S ++ [0]) j) := fun j => by rw [cf_app0]; exact Sm_mk hht (by omega) j
    have hbS : Sm b := Sm_C hb2 (by omega)
    have hpS : Sm (b * cf (S ++ [0]) (S.length - i)) := by
      have := P.Ht_mul hb2 (P.Ht_up hht (Nat.le_refl _))
      have h3 := Sm_of this (by omega) (S.length - i)
      rw [P.C_mul, P.c_mk] at h3
      rw [cf_app0]; exact h3
    refine we_call (wa_two (we_idx rfl rfl (idx_lst (f := S ++ [0]) (i := i) (by simp; omega))) (we_call (wa_two rfl (we_idx rfl (we_bin rfl rfl rfl) (idx_i (f := S ++ [0]) (i := S.length - i) (by simp; omega) (by omega)))) (law_mul b _ hbS (hw _) l k' (by omega)))) (law_add _ _ (hw i) hpS l k' (by omega))
  refine ⟨b, da (.list (bendMenu.map enc)), da (enc b), da (.int ((S.length : Nat) : Int)), ow (S ++ [0]), s8, k', ?_, hk', hb1, hb2, fun h => d5 h b hb⟩
  exact ss_nx (ws_asg (env' := [.csk, da (.int (many : Int)), ow S, da (.int (t : Int)), ow bendMenu, s5, s6, s7, s8]) menu_den rfl)
    (ss_nx (ws_par (env' := [.csk, da (.int (many : Int)), ow S, da (.int (t : Int)), da (.list (bendMenu.map enc)), da (enc b), da (.int ((S.length : Nat) : Int)), s7, s8]) (wo_two (we_callC rfl (wa_one d1) hof) (we_blt (wa_one rfl) (len_lst S))) rfl)
    (ss_nx (ws_asg (env' := [.csk, da (.int (many : Int)), ow S, da (.int (t : Int)), da (.list (bendMenu.map enc)), da (enc b), da (.int ((S.length : Nat) : Int)), ow (S ++ [0]), s8]) (we_bin rfl rfl (add_lit (by omega))) rfl)
    (ss_nx (ws_asg hcomp rfl) rfl)))
/-- a steady led row with t bends -/
structure Stead (t : Nat) (w : P) : Prop where
  bent : Bent t w.l
  len : w.len = t + 1
  c0 : w.c 0 = 1
  ht : P.Ht (4 * t) w
set_option maxHeartbeats 4000000 in
theorem draw_steady {l N : Nat} {k : KS} (many : Nat) (hm : many < 100) (hk : OkK N k) (hN : N ≤ 1000) (hl : 5 ≤ l) : ∃ (w : P) (k' : KS), Ph l 166 [.csk, da (.int (many : Int))] k = some (encP w, k') ∧ OkK (N + many) k' ∧ Stead many w := by
  obtain ⟨l', rfl⟩ : ∃ l', l = l' + 1 := ⟨l - 1, by omega⟩
  obtain ⟨env', k', h1, S, s3, s4, s5, s6, s7, s8, rfl, h2, h3, h4⟩ := for_rngK (N := many) (en := fun j => (.int ((j : Nat) : Int) : PyData))
    (f := fun x env k => (bindP (.one 3) x env).bind fun en => denSs (Ph l') DnLib.G MW steadyIn en k)
    (fun t env k => ∃ S s3 s4 s5 s6 s7 s8, env = [.csk, da (.int (many : Int)), ow S, s3, s4, s5, s6, s7, s8] ∧ Bent t S ∧ OkK (N + t) k ∧ (t = many → trim S = S))
    (fun t env k ht ⟨S, s3, s4, s5, s6, s7, s8, he, g2, g3, g4⟩ => by
      subst he
      obtain ⟨b, a4, a5, a6, a7, a8, k', e1, e2, e3, e4, e5⟩ := steady_in (many := many) (s4 := s4) (s5 := s5) (s6 := s6) (s7 := s7) (s8 := s8) g2 (by omega) g3 (by omega) (show 4 ≤ l' by omega)
      exact ⟨_, k', e1, _, _, _, _, _, _, _, rfl, .step g2 e3 e4, e2, fun h => trim_id _ (.inr (by rw [bendL_last g2]; exact e5 h))⟩)
    [.csk, da (.int (many : Int)), ow [1], .un, .un, .un, .un, .un, .un] k ⟨_, _, _, _, _, _, _, rfl, .one, hk, fun _ => trim_id _ (.inr (by show (1 : Rat) ≠ 0; grind))⟩
  have ht := h4 rfl
  refine ⟨⟨S, ht⟩, k', Ck.of (b := false) rfl rfl rfl (ss_nx (ws_asg (env' := [.csk, da (.int (many : Int)), ow [1], .un, .un, .un, .un, .un, .un]) rfl rfl) (ss_nx (ws_for (wi_rng (n := many) rfl (by omega)) h1) (ss_rt (ws_ret (we_blt (wa_one rfl) rfl))))), h3, h2, h2.len, h2.c0, ?_⟩
  have := h2.ht
  rw [show P.mk' S = ⟨S, ht⟩ from P.ext fun i => by rw [P.c_mk]; rfl] at this
  exact this
end Dn
set_option Elab.async false
set_option linter.all false
/-! DnS1: steady rows without zeros: sums of squares. Plain Lean. -/
namespace Dn
/-- the squares of the first N numbers, added up -/
def sqL : Nat → List Rat → Rat
  | 0, _ => 0
  | _ + 1, [] => 0
  | N + 1, a :: f => a * a + sqL N f
def dotL : List Rat → List Rat → Rat
  | [], _ => 0
  | _, [] => 0
  | a :: f, b :: g => a * b + dotL f g
theorem sq_nn (x : Rat) : 0 ≤ x * x := by
  rcases (show x ≤ 0 ∨ 0 ≤ x by grind) with h | h
  · have := Rat.mul_nonneg (show 0 ≤ -x by grind) (show 0 ≤ -x by grind); grind
  · exact Rat.mul_nonneg h h
theorem sqL_nn : ∀ (N : Nat) (f : List Rat), 0 ≤ sqL N f
  | 0, f => by simp only [sqL]; grind
  | N + 1, [] => by simp only [sqL]; grind
  | N + 1, a :: f => by have := sqL_nn N f; have := sq_nn a; simp only [sqL]; grind
theorem sqL_nil (N : Nat) : sqL N [] = 0 := by cases N <;> rfl
theorem sqL_cf : ∀ (N : Nat) (f g : List Rat), (∀ i, i < N → cf f i = cf g i) → sqL N f = sqL N g
  | 0, f, g, _ => rfl
  | N + 1, [], [], _ => rfl
  | N + 1, [], b :: g, h => by
    have e := sqL_cf N [] g fun i hi => h (i + 1) (by omega)
    have h0 : (0 : Rat) = b := h 0 (by omega)
    simp only [sqL]; rw [← e, sqL_nil, ← h0]; grind
  | N + 1, a :: f, [], h => by
    have e := sqL_cf N f [] fun i hi => h (i + 1) (by omega)
    have h0 : a = (0 : Rat) := h 0 (by omega)
    simp only [sqL]; rw [e, sqL_nil, h0]; grind
  | N + 1, a :: f, b :: g, h => by
    have e := sqL_cf N f g fun i hi => h (i + 1) (by omega)
    have h0 : a = b := h 0 (by omega)
    simp only [sqL]; rw [e, h0]
theorem sqL_mono : ∀ (N M : Nat) (f : List Rat), N ≤ M → sqL N f ≤ sqL M f
  | 0, M, f, _ => sqL_nn M f
  | N + 1, 0, f, h => by omega
  | N + 1, M + 1, [], _ => by simp only [sqL]; grind
  | N + 1, M + 1, a :: f, h => by have := sqL_mono N M f (by omega); simp only [sqL]; grind
theorem sqL_succ : ∀ (N : Nat) (f : List Rat), sqL (N + 1) f = sqL N f + cf f N * cf f N
  | 0, [] => by simp only [sqL, cf_nil]; grind
  | 0, a :: f => by simp only [sqL, cf_zero]; grind
  | N + 1, [] => by simp only [sqL, cf_nil]; grind
  | N + 1, a :: f => by have := sqL_succ N f; simp only [sqL, cf_succ] at this ⊢; grind
theorem dotL_sq : ∀ (N : Nat) (f : List Rat), f.length ≤ N → sqL N f = dotL f f
  | 0, [], _ => rfl
  | 0, a :: f, h => by simp at h
  | N + 1, [], _ => rfl
  | N + 1, a :: f, h => by simp only [sqL, dotL, dotL_sq N f (by simpa using h)]
theorem dotL_nil (f : List Rat) : dotL f [] = 0 := by cases f <;> rfl
theorem dotL_comm : ∀ f g : List Rat, dotL f g = dotL g f
  | [], [] => rfl
  | [], b :: g => rfl
  | a :: f, [] => rfl
  | a :: f, b :: g => by simp only [dotL, dotL_comm f g]; grind
theorem dotL_cfR : ∀ f g h : List Rat, (∀ i, cf g i = cf h i) → dotL f g = dotL f h
  | [], g, h, _ => rfl
  | a :: f, [], [], _ => rfl
  | a :: f, [], b :: h, e => by
    have := dotL_cfR f [] h fun i => e (i + 1)
    have h0 : (0 : Rat) = b := e 0
    simp only [dotL, dotL_nil] at this ⊢; rw [← this, ← h0]; grind
  | a :: f, b :: g, [], e => by
    have := dotL_cfR f g [] fun i => e (i + 1)
    have h0 : b = (0 : Rat) := e 0
    simp only [dotL, dotL_nil] at this ⊢; rw [this, h0]; grind
  | a :: f, b :: g, c :: h, e => by
    have := dotL_cfR f g h fun i => e (i + 1)
    have h0 : b = c := e 0
    simp only [dotL]; rw [this, h0]
theorem dotL_add : ∀ f g h : List Rat, dotL f (addL g h) = dotL f g + dotL f h
  | [], g, h => by simp only [dotL]; grind
  | a :: f, [], h => by simp only [addL, dotL]; grind
  | a :: f, b :: g, [] => by simp only [addL, dotL]; grind
  | a :: f, b :: g, c :: h => by simp only [addL, dotL, dotL_add f g h]; grind
theorem dotL_sm (c : Rat) : ∀ f g : List Rat, dotL f (smL c g) = c * dotL f g
  | [], g => by simp only [dotL]; grind
  | a :: f, [] => by simp only [smL, List.map_nil, dotL]; grind
  | a :: f, b :: g => by
    have := dotL_sm c f g
    simp only [smL] at this
    simp only [smL, List.map_cons, dotL, this]; grind
namespace P
def sqN (N : Nat) (p : P) : Rat := sqL N p.l
def dot (p q : P) : Rat := dotL p.l q.l
theorem sqN_nn (N : Nat) (p : P) : 0 ≤ sqN N p := sqL_nn _ _
theorem sqN_mk (N : Nat) (f : List Rat) : sqN N (mk' f) = sqL N f := sqL_cf _ _ _ fun i _ => cf_trim f i
theorem sqN_congr {N : Nat} {p q : P} (h : ∀ i, i < N → p.c i = q.c i) : sqN N p = sqN N q := sqL_cf _ _ _ h
theorem sqN_mono {N M : Nat} (p : P) (h : N ≤ M) : sqN N p ≤ sqN M p := sqL_mono _ _ _ h
theorem sqN_succ (N : Nat) (p : P) : sqN (N + 1) p = sqN N p + p.c N * p.c N := sqL_succ _ _
theorem sqN_zero (p : P) : sqN 0 p = 0 := rfl
theorem sqN_dot {N : Nat} {p : P} (h : p.len ≤ N) : sqN N p = dot p p := dotL_sq _ _ h
theorem sqN_le_dot (N : Nat) (p : P) : sqN N p ≤ dot p p := by
  rw [← sqN_dot (N := max N p.len) (by omega)]; exact sqN_mono p (by omega)
theorem dot_nn (p : P) : 0 ≤ dot p p := by rw [← sqN_dot (Nat.le_refl _)]; exact sqN_nn _ _
/-- pointwise, added up -/
theorem sqN_ind {N : Nat} {p q r : P} {x y z : Rat} (h : ∀ i, x * (p.c i * p.c i) + y * (q.c i * q.c i) ≤ z * (r.c i * r.c i)) : x * sqN N p + y * sqN N q ≤ z * sqN N r := by
  induction N with
  | zero => simp only [sqN_zero]; grind
  | succ N ih =>
    have := h N
    simp only [sqN_succ]; grind
theorem sqN_C (N : Nat) (a : Rat) (p : P) : sqN N (C a * p) = a * a * sqN N p := by
  induction N with
  | zero => simp only [sqN_zero]; grind
  | succ N ih => simp only [sqN_succ, ih, C_mul]; grind
theorem sqN_X (N : Nat) (p : P) : sqN (N + 1) (X * p) = sqN N p := by
  induction N with
  | zero => rw [sqN_succ, X_mul0, sqN_zero, sqN_zero]; grind
  | succ N ih => rw [sqN_succ, ih, X_mulS, sqN_succ]
theorem sqN_X_le (N : Nat) (p : P) : sqN N (X * p) ≤ sqN N p := by
  cases N with
  | zero => exact Rat.le_refl
  | succ N => rw [sqN_X]; exact sqN_mono p (by omega)
/-- (x + k y)^2 from below -/
theorem sq_low (x y k : Rat) : (1 - ab k) * (x * x) - (1 - ab k) * ab k * (y * y) ≤ (x + k * y) * (x + k * y) := by
  rcases (show k < 0 ∨ 0 ≤ k by grind) with h | h
  · have e : ab k = -k := by unfold ab; grind
    have h2 := Rat.mul_nonneg (show 0 ≤ -k by grind) (sq_nn (x - y))
    rw [e]; grind
  · have e : ab k = k := ab_of_nn h
    have h2 := Rat.mul_nonneg h (sq_nn (x + y))
    rw [e]; grind
theorem sqN_low (N : Nat) (p q : P) (k : Rat) : (1 - ab k) * sqN N p - (1 - ab k) * ab k * sqN N q ≤ sqN N (p + C k * q) := by
  have := sqN_ind (N := N) (p := p) (q := q) (r := p + C k * q) (x := 1 - ab k) (y := -((1 - ab k) * ab k)) (z := 1) fun i => by
    rw [c_add, C_mul]
    have := sq_low (p.c i) (q.c i) k
    grind
  grind
/-- multiplication by a row is bounded -/
theorem sqN_bound : ∀ (f : List Rat), ∃ K, 0 < K ∧ ∀ N V, sqN N (mk' f * V) ≤ K * sqN N V
  | [] => ⟨1, by grind, fun N V => by
    rw [mk_nil, show (0 : P) * V = C 0 * V from rfl, sqN_C]
    have := sqN_nn N V; grind⟩
  | a :: f => by
    obtain ⟨K, hK, h⟩ := sqN_bound f
    have ha := sq_nn a
    refine ⟨2 * (a * a) + 2 * K, by grind, fun N V => ?_⟩
    have e : mk' (a :: f) * V = C a * V + X * (mk' f * V) := by rw [mk_cons]; grind
    rw [e]
    have h1 := h N V
    have h2 := sqN_X_le N (mk' f * V)
    have h3 := sqN_ind (N := N) (p := C a * V + X * (mk' f * V)) (q := C a * V) (r := X * (mk' f * V)) (x := 1) (y := -2) (z := 2) fun i => by
      rw [c_add]
      have := sq_nn ((C a * V).c i - (X * (mk' f * V)).c i)
      grind
    have h4 := sqN_C N a V
    grind
theorem sqN_bound' (p : P) : ∃ K, 0 < K ∧ ∀ N V, sqN N (p * V) ≤ K * sqN N V := by
  obtain ⟨K, h1, h2⟩ := sqN_bound p.l
  rw [mk_l] at h2
  exact ⟨K, h1, h2⟩
/-- steady: bounded from below -/
def St (p : P) : Prop := ∃ c, 0 < c ∧ ∀ N V, c * sqN N V ≤ sqN N (p * V)
theorem St_mul {p q : P} (hp : St p) (hq : St q) : St (p * q) := by
  obtain ⟨c, hc, h⟩ := hp
  obtain ⟨d, hd, g⟩ := hq
  refine ⟨c * d, Rat.mul_pos hc hd, fun N V => ?_⟩
  have h1 := h N (q * V)
  have h2 := Rat.mul_le_mul_of_nonneg_left (g N V) (Rat.le_of_lt hc)
  rw [show p * q * V = p * (q * V) by grind]
  grind
theorem St_right {p q : P} (h : St (p * q)) : St q := by
  obtain ⟨c, hc, h⟩ := h
  obtain ⟨K, hK, g⟩ := sqN_bound' p
  refine ⟨c / K, by rw [Rat.div_def]; exact Rat.mul_pos hc (Rat.inv_pos.mpr hK), fun N V => ?_⟩
  have h1 := h N V
  have h2 := g N (q * V)
  rw [show p * q * V = p * (q * V) by grind] at h1
  have h3 : K * (c / K * sqN N V) ≤ K * sqN N (q * V) := by
    have : K * (c / K * sqN N V) = c * sqN N V := by grind
    rw [this]; grind
  exact Rat.le_of_mul_le_mul_left h3 hK
theorem St_left {p q : P} (h : St (p * q)) : St p := St_right (p := q) (by rw [show q * p = p * q by grind]; exact h)
theorem St_c0 {p : P} (h : St p) : p.c 0 ≠ 0 := by
  intro z
  obtain ⟨c, hc, h⟩ := h
  have := h 1 1
  rw [sqN_succ, sqN_succ, sqN_zero, sqN_zero, c0_mul, z] at this
  have e1 : (1 : P).c 0 = 1 := c_C0 1
  rw [e1] at this
  grind
theorem St_C {a : Rat} (h : a ≠ 0) : St (C a) := ⟨a * a, by
  rcases (show a < 0 ∨ 0 < a by grind) with h | h
  · have := Rat.mul_pos (show 0 < -a by grind) (show 0 < -a by grind); grind
  · exact Rat.mul_pos h h, fun N V => by rw [sqN_C]; exact Rat.le_refl⟩
theorem St_one : St 1 := by rw [← C_one]; exact St_C (by grind)
theorem St_small {p q : P} {e : Rat} (h : St p) (hq : ∀ N V, sqN N (q * V) ≤ sqN N V) : ∃ e0, 0 < e0 ∧ ∀ e, ab e < e0 → St (p + C e * q) := by
  obtain ⟨c, hc, h⟩ := h
  refine ⟨if c < 1 then c else 1, by split <;> grind, fun e he => ?_⟩
  have he1 : ab e < 1 := by split at he <;> grind
  have he2 : ab e < c := by split at he <;> grind
  have he0 := ab_nn e
  refine ⟨(1 - ab e) * (c - ab e), Rat.mul_pos (by grind) (by grind), fun N V => ?_⟩
  have h1 := sqN_low N (p * V) (q * V) e
  have h2 := Rat.mul_le_mul_of_nonneg_left (h N V) (show 0 ≤ 1 - ab e by grind)
  have h3 := Rat.mul_le_mul_of_nonneg_left (hq N V) (Rat.mul_nonneg (show 0 ≤ 1 - ab e by grind) he0)
  rw [show (p + C e * q) * V = p * V + C e * (q * V) by grind]
  grind
end P
end Dn
set_option Elab.async false
set_option linter.all false
/-! DnS2: mirrored rows; what steadiness tells of the last number and of the next row. Plain Lean. -/
namespace Dn
namespace P
/-! ### inner products -/
theorem dot_comm (p q : P) : dot p q = dot q p := dotL_comm _ _
theorem dot_mkR (p : P) (f : List Rat) : dot p (mk' f) = dotL p.l f := dotL_cfR _ _ _ fun i => cf_trim f i
theorem dot_add (p q r : P) : dot p (q + r) = dot p q + dot p r := by
  show dot p (mk' (addL q.l r.l)) = _
  rw [dot_mkR, dotL_add]; rfl
theorem dot_C (p q : P) (a : Rat) : dot p (C a * q) = a * dot p q := by
  have e : C a * q = mk' (smL a q.l) := ext fun i => by rw [C_mul, c_mk, cf_smL]; rfl
  rw [e, dot_mkR, dotL_sm]; rfl
theorem dot_addL (p q r : P) : dot (q + r) p = dot q p + dot r p := by rw [dot_comm, dot_add, dot_comm p q, dot_comm p r]
theorem dot_CL (p q : P) (a : Rat) : dot (C a * q) p = a * dot q p := by rw [dot_comm, dot_C, dot_comm]
theorem dot_zero (p : P) : dot p 0 = 0 := dotL_nil _
theorem dot_zeroL (p : P) : dot 0 p = 0 := by rw [dot_comm, dot_zero]
theorem mk_zcons (f : List Rat) : X * mk' f = mk' (0 :: f) := by rw [mk_cons, C_zero]; grind
theorem dot_mk (f g : List Rat) : dot (mk' f) (mk' g) = dotL f g := by
  rw [dot_mkR, dotL_comm]
  rw [dotL_cfR g (mk' f).l f fun i => cf_trim f i, dotL_comm]
theorem dot_X (p q : P) : dot (X * p) (X * q) = dot p q := by
  have e : ∀ p : P, X * p = mk' (0 :: p.l) := fun p => by rw [← mk_zcons, mk_l]
  rw [e p, e q, dot_mk]
  show 0 * 0 + dot p q = _
  grind
theorem dot_Xk (k : Nat) (p q : P) : dot (X ^ k * p) (X ^ k * q) = dot p q := by
  induction k with
  | zero => rw [Lean.Grind.Semiring.pow_zero, Lean.Grind.Semiring.one_mul, Lean.Grind.Semiring.one_mul]
  | succ k ih =>
    have e : ∀ p : P, X ^ (k + 1) * p = X * (X ^ k * p) := fun p => by rw [Lean.Grind.Semiring.pow_succ]; grind
    rw [e, e, dot_X, ih]

theorem mk_snoc (a : Rat) : ∀ f : List Rat, mk' (f ++ [a]) = mk' f + C a * X ^ f.length
  | [] => by rw [List.nil_append, mk_cons, mk_nil, List.length_nil, Lean.Grind.Semiring.pow_zero]; grind
  | b :: f => by rw [List.cons_append, mk_cons, mk_cons, mk_snoc a f, List.length_cons, Lean.Grind.Semiring.pow_succ]; grind
theorem mirror_shift (V : P) : ∀ (g : List Rat) (s : Nat), dot V (X ^ (s + 1) * (mk' g * V)) = dot (X ^ (g.length + s) * V) (mk' g.reverse * V)
  | [], s => by
    rw [List.reverse_nil, mk_nil, show X ^ (s + 1) * ((0 : P) * V) = 0 by grind, show (0 : P) * V = 0 by grind, dot_zero, dot_zero]
  | b :: g, s => by
    have ih := mirror_shift V g (s + 1)
    have e1 : X ^ (s + 1) * (mk' (b :: g) * V) = C b * (X ^ (s + 1) * V) + X ^ (s + 1 + 1) * (mk' g * V) := by
      rw [mk_cons, Lean.Grind.Semiring.pow_succ _ (s + 1)]; grind
    have e2 : mk' (b :: g).reverse * V = mk' g.reverse * V + C b * (X ^ g.length * V) := by
      rw [List.reverse_cons, mk_snoc, List.length_reverse]; grind
    have e3 : X ^ ((b :: g).length + s) * V = X ^ g.length * (X ^ (s + 1) * V) := by
      rw [List.length_cons, show g.length + 1 + s = g.length + (s + 1) by omega, Lean.Grind.Semiring.pow_add]; grind
    have e4 : X ^ (g.length + (s + 1)) * V = X ^ ((b :: g).length + s) * V := by
      rw [List.length_cons, show g.length + 1 + s = g.length + (s + 1) by omega]
    rw [e1, e2, dot_add, dot_add, dot_C, dot_C, ih, e4, e3, dot_Xk, dot_comm V]
    grind
/-- a row and its mirrored one make products of the same size -/
theorem mirror_dot (V : P) : ∀ (f g : List Rat), f.length = g.length → dot (mk' f * V) (mk' g * V) = dot (mk' f.reverse * V) (mk' g.reverse * V)
  | [], [], _ => rfl
  | [], b :: g, h => by simp at h
  | a :: f, [], h => by simp at h
  | a :: f, b :: g, h => by
    have hl : f.length = g.length := by simpa using h
    have ih := mirror_dot V f g hl
    have s1 := mirror_shift V g 0
    have s2 := mirror_shift V f 0
    simp only [Nat.add_zero, Nat.zero_add] at s1 s2
    rw [show X ^ 1 = X by rw [Lean.Grind.Semiring.pow_succ, Lean.Grind.Semiring.pow_zero]; grind] at s1 s2
    have e1 : ∀ (c : Rat) (f : List Rat), mk' (c :: f) * V = C c * V + X * (mk' f * V) := fun c f => by rw [mk_cons]; grind
    have e2 : ∀ (c : Rat) (f : List Rat), mk' (c :: f).reverse * V = mk' f.reverse * V + C c * (X ^ f.length * V) := fun c f => by
      rw [List.reverse_cons, mk_snoc, List.length_reverse]; grind
    rw [e1, e1, e2, e2, dot_add, dot_addL, dot_addL, dot_add, dot_addL, dot_addL, dot_C, dot_CL, dot_C, dot_CL, dot_CL, dot_C, dot_C, dot_CL, dot_X, hl, dot_Xk]
    rw [hl] at s2
    rw [dot_comm (X * (mk' f * V)), s1, s2, ih]
    rw [dot_comm (mk' f.reverse * V) (X ^ g.length * V)]
    grind
theorem sqN_Xk_le (k N : Nat) (p : P) : sqN N (X ^ k * p) ≤ sqN N p := by
  induction k with
  | zero => rw [Lean.Grind.Semiring.pow_zero, Lean.Grind.Semiring.one_mul]; exact Rat.le_refl
  | succ k ih =>
    have e : X ^ (k + 1) * p = X * (X ^ k * p) := by rw [Lean.Grind.Semiring.pow_succ]; grind
    have := sqN_X_le N (X ^ k * p)
    rw [e]; grind
/-- two rows alike from M on -/
theorem dot_tail {A B : P} {M : Nat} (h : ∀ i, M ≤ i → A.c i = B.c i) : dot A A ≤ sqN M A + dot B B := by
  have key : ∀ r, sqN (M + r) A ≤ sqN M A + sqN (M + r) B := by
    intro r
    induction r with
    | zero => have := sqN_nn M B; rw [Nat.add_zero]; grind
    | succ r ih =>
      rw [← Nat.add_assoc, sqN_succ, sqN_succ, h (M + r) (by omega)]; grind
  have h1 := key A.len
  have h2 := sqN_le_dot (M + A.len) B
  rw [sqN_dot (by omega)] at h1
  grind
theorem mk_split : ∀ (f : List Rat) (m : Nat), mk' f = mk' (f.take m) + X ^ m * mk' (f.drop m)
  | [], m => by simp only [List.take_nil, List.drop_nil, mk_nil]; grind
  | a :: f, 0 => by rw [List.take_zero, List.drop_zero, mk_nil, Lean.Grind.Semiring.pow_zero]; grind
  | a :: f, m + 1 => by
    rw [List.take_succ_cons, List.drop_succ_cons, mk_cons, mk_cons, mk_split f m, Lean.Grind.Semiring.pow_succ]; grind
theorem split_ex (U : P) (m : Nat) : ∃ L T : P, U = L + X ^ m * T ∧ L.len ≤ m ∧ ∀ r, sqN (m + r) U = sqN m U + sqN r T := by
  refine ⟨mk' (U.l.take m), mk' (U.l.drop m), ?_, ?_, ?_⟩
  · rw [← mk_split, mk_l]
  · exact Nat.le_trans (len_mk _) (by rw [List.length_take]; omega)
  · intro r
    have hc : ∀ i, (mk' (U.l.drop m)).c i = U.c (i + m) := fun i => by
      rw [c_mk, cf_eq]
      show _ = cf U.l (i + m)
      rw [cf_eq]
      simp only [List.getD_eq_getElem?_getD, List.getElem?_drop]
      rw [Nat.add_comm]
    induction r with
    | zero => rw [Nat.add_zero, sqN_zero]; grind
    | succ r ih =>
      rw [← Nat.add_assoc, sqN_succ, ih, sqN_succ, hc, Nat.add_comm r m]; grind
/-- going on so that the product stays 0 -/
def ext_ (p U0 : P) (N : Nat) : Nat → P
  | 0 => U0
  | k + 1 => ext_ p U0 N k - C ((p * ext_ p U0 N k).c (N + k)) * X ^ (N + k)
theorem ext_c {p U0 : P} {N : Nat} (k i : Nat) (hi : i < N + k) : (ext_ p U0 N (k + 1)).c i = (ext_ p U0 N k).c i := by
  show (ext_ p U0 N k - C _ * X ^ (N + k)).c i = _
  rw [c_sub, C_mul]
  have : (X ^ (N + k)).c i = 0 := by
    have := Xk_low (N + k) 1 i hi
    rwa [show X ^ (N + k) * (1 : P) = X ^ (N + k) by grind] at this
  rw [this]; grind
theorem ext_p {p U0 : P} {N : Nat} (hp : p.c 0 = 1) (k i : Nat) : (i < N + k → (p * ext_ p U0 N (k + 1)).c i = (p * ext_ p U0 N k).c i) ∧ (p * ext_ p U0 N (k + 1)).c (N + k) = 0 := by
  have e : p * ext_ p U0 N (k + 1) = p * ext_ p U0 N k - C ((p * ext_ p U0 N k).c (N + k)) * (X ^ (N + k) * p) := by
    show p * (ext_ p U0 N k - C _ * X ^ (N + k)) = _
    grind
  constructor
  · intro hi
    rw [e, c_sub, C_mul, Xk_low _ _ _ hi]; grind
  · rw [e, c_sub, C_mul]
    have : (X ^ (N + k) * p).c (N + k) = 1 := by
      have := Xk_mul (N + k) p 0
      rw [Nat.zero_add] at this
      rw [this, hp]
    rw [this]; grind
theorem ext_sq {p U0 : P} {N : Nat} (hp : p.c 0 = 1) : ∀ k, sqN (N + k) (p * ext_ p U0 N k) = sqN N (p * U0)
  | 0 => rfl
  | k + 1 => by
    rw [← Nat.add_assoc, sqN_succ, (ext_p hp k 0).2, sqN_congr (q := p * ext_ p U0 N k) fun i hi => (ext_p hp k i).1 hi, ext_sq hp k]; grind
theorem ext_len {p U0 : P} {N : Nat} (h0 : U0.len ≤ N) : ∀ k, (ext_ p U0 N k).len ≤ N + k
  | 0 => h0
  | k + 1 => by
    refine len_le fun i hi => ?_
    show (ext_ p U0 N k - C _ * X ^ (N + k)).c i = 0
    rw [c_sub, C_mul, c_ge (p := ext_ p U0 N k) (by have := ext_len (p := p) h0 k; omega)]
    have : (X ^ (N + k)).c i = 0 := by
      have := Xk_mul (N + k) 1 (i - (N + k))
      rw [show X ^ (N + k) * (1 : P) = X ^ (N + k) by grind, show i - (N + k) + (N + k) = i by omega] at this
      rw [this]
      obtain ⟨j, hj⟩ : ∃ j, i - (N + k) = j + 1 := ⟨i - (N + k) - 1, by omega⟩
      rw [hj]; exact c_CS _ j
    rw [this]; grind
theorem ext_low {p U0 : P} {N : Nat} : ∀ (r k i : Nat), i < N + k → (ext_ p U0 N (k + r)).c i = (ext_ p U0 N k).c i
  | 0, k, i, h => rfl
  | r + 1, k, i, h => by rw [← Nat.add_assoc, ext_c (k + r) i (by omega), ext_low r k i h]
theorem nat_above (x : Rat) : ∃ j : Nat, x ≤ j := by
  refine ⟨x.num.natAbs, ?_⟩
  by_cases hx : x ≤ 0
  · have : (0 : Rat) ≤ (x.num.natAbs : Rat) := by
      have : ((0 : Nat) : Rat) ≤ ((x.num.natAbs : Nat) : Rat) := Rat.natCast_le_natCast.mpr (Nat.zero_le _)
      exact this
    grind
  · have e := Rat.num_divInt_den x
    rw [Rat.divInt_eq_div] at e
    have hd : ((x.den : Int) : Rat) ≠ 0 := by
      intro z
      have : (x.den : Int) = 0 := Rat.intCast_inj.mp (by rw [z]; rfl)
      exact x.den_nz (by omega)
    have h1 : (1 : Rat) ≤ ((x.den : Int) : Rat) := by
      rw [← Rat.intCast_one]; exact Rat.intCast_le_intCast.mpr (by have := x.den_nz; omega)
    have e2 : x * ((x.den : Int) : Rat) = (x.num : Rat) := by
      have e3 : x = (x.num : Rat) * ((x.den : Int) : Rat)⁻¹ := by rw [← Rat.div_def]; exact e.symm
      have : (x.num : Rat) * ((x.den : Int) : Rat)⁻¹ * ((x.den : Int) : Rat) = x.num := by rw [Rat.mul_assoc, Rat.inv_mul_cancel _ hd, Rat.mul_one]
      rw [← e3] at this
      exact this
    have h3 : x * 1 ≤ x * ((x.den : Int) : Rat) := Rat.mul_le_mul_of_nonneg_left h1 (by grind)
    have h4 : (x.num : Rat) ≤ ((x.num.natAbs : Nat) : Rat) := by
      show (x.num : Rat) ≤ (((x.num.natAbs : Nat) : Int) : Rat)
      exact Rat.intCast_le_intCast.mpr (by omega)
    grind
/-- the mirrored row is nowhere greater -/
theorem mirror_le {f : List Rat} (hf : cf f 0 = 1) (h : St (mk' f)) (N : Nat) (V : P) : sqN N (mk' f.reverse * V) ≤ sqN N (mk' f * V) := by
  apply Classical.byContradiction
  intro hcon
  -- V cut
  obtain ⟨V0, T0, e0, l0, _⟩ := split_ex V N
  have cut : ∀ p : P, sqN N (p * V) = sqN N (p * V0) := fun p => sqN_congr fun i hi => by
    rw [e0, show p * (V0 + X ^ N * T0) = p * V0 + X ^ N * (p * T0) by grind, c_add, Xk_low _ _ _ hi]; grind
  rw [cut, cut] at hcon
  have hp : (mk' f).c 0 = 1 := by rw [c_mk]; exact hf
  obtain ⟨c, hc, hst⟩ := h
  obtain ⟨K, hK, hb⟩ := sqN_bound' (mk' f)
  have hn : f.length ≠ 0 := by intro z; rw [List.length_eq_zero_iff.mp z] at hf; exact absurd hf (by simp only [cf_nil]; grind)
  -- the growing sums
  have step : ∀ k, sqN N (mk' f.reverse * V0) - sqN N (mk' f * V0) ≤ K * (sqN (N + (k + f.length)) (ext_ (mk' f) V0 N (k + f.length)) - sqN (N + k) (ext_ (mk' f) V0 N k)) := fun k => by
    obtain ⟨L, T, e1, l1, s1⟩ := split_ex (ext_ (mk' f) V0 N (k + f.length)) (N + k)
    have a1 : sqN N (mk' f.reverse * V0) = sqN N (mk' f.reverse * ext_ (mk' f) V0 N (k + f.length)) := sqN_congr fun i hi => by
      obtain ⟨L2, T2, e2, l2, _⟩ := split_ex (ext_ (mk' f) V0 N (k + f.length)) N
      have hL2 : L2 = V0 := ext fun j => by
        by_cases hj : j < N
        · have : (ext_ (mk' f) V0 N (k + f.length)).c j = L2.c j := by rw [e2, c_add, Xk_low _ _ _ hj]; grind
          rw [← this, show k + f.length = 0 + (k + f.length) by omega, ext_low (k + f.length) 0 j (by omega)]; rfl
        · rw [c_ge (p := L2) (by omega), c_ge (p := V0) (by omega)]
      rw [e2, hL2, show mk' f.reverse * (V0 + X ^ N * T2) = mk' f.reverse * V0 + X ^ N * (mk' f.reverse * T2) by grind, c_add, Xk_low _ _ _ hi]; grind
    have a2 := sqN_le_dot N (mk' f.reverse * ext_ (mk' f) V0 N (k + f.length))
    rw [← mirror_dot _ f f rfl] at a2
    have a3 : dot (mk' f * ext_ (mk' f) V0 N (k + f.length)) (mk' f * ext_ (mk' f) V0 N (k + f.length)) ≤ sqN (N + (k + f.length)) (mk' f * ext_ (mk' f) V0 N (k + f.length)) + dot (X ^ (N + k) * (mk' f * T)) (X ^ (N + k) * (mk' f * T)) := dot_tail fun i hi => by
      have e3 : mk' f * ext_ (mk' f) V0 N (k + f.length) = mk' f * L + X ^ (N + k) * (mk' f * T) := by rw [e1]; grind
      rw [e3, c_add]
      have : (mk' f * L).c i = 0 := c_ge (by
        have := len_mul_le (mk' f) L
        have := len_mk f
        omega)
      rw [this]; grind
    rw [ext_sq hp, dot_Xk] at a3
    have a4 := hb (mk' f * T).len T
    rw [sqN_dot (Nat.le_refl _)] at a4
    have a5 := s1 f.length
    rw [show N + k + f.length = N + (k + f.length) by omega] at a5
    have a6 : sqN (mk' f * T).len T ≤ sqN f.length T := by
      have hT : T.len ≤ f.length := by
        refine len_le fun i hi => ?_
        have : (ext_ (mk' f) V0 N (k + f.length)).c (i + (N + k)) = 0 := c_ge (by have := ext_len (p := mk' f) l0 (k + f.length); omega)
        rw [e1, c_add, c_ge (p := L) (by omega), Xk_mul] at this
        grind
      rw [sqN_dot hT]
      exact sqN_le_dot _ _
    have a7 : sqN (N + k) (ext_ (mk' f) V0 N (k + f.length)) = sqN (N + k) (ext_ (mk' f) V0 N k) := sqN_congr fun i hi => ext_low f.length k i hi
    have a8 := Rat.mul_le_mul_of_nonneg_left a6 (Rat.le_of_lt hK)
    have a9 : K * (sqN (N + (k + f.length)) (ext_ (mk' f) V0 N (k + f.length)) - sqN (N + k) (ext_ (mk' f) V0 N k)) = K * sqN f.length T := by rw [a5, a7]; grind
    rw [a9]; grind
  have grow : ∀ j : Nat, (j : Rat) * (sqN N (mk' f.reverse * V0) - sqN N (mk' f * V0)) ≤ K * sqN (N + j * f.length) (ext_ (mk' f) V0 N (j * f.length)) := by
    intro j
    induction j with
    | zero =>
      have := Rat.mul_nonneg (Rat.le_of_lt hK) (sqN_nn (N + 0 * f.length) (ext_ (mk' f) V0 N (0 * f.length)))
      have e : ((0 : Nat) : Rat) = 0 := rfl
      rw [e]; grind
    | succ j ih =>
      have := step (j * f.length)
      rw [Nat.succ_mul]
      have e : ((j + 1 : Nat) : Rat) = (j : Rat) + 1 := Rat.natCast_add j 1
      rw [e]; grind
  have top : ∀ k, c * sqN (N + k) (ext_ (mk' f) V0 N k) ≤ sqN N (mk' f * V0) := fun k => by
    have := hst (N + k) (ext_ (mk' f) V0 N k)
    rw [ext_sq hp] at this
    exact this
  generalize hd : sqN N (mk' f.reverse * V0) - sqN N (mk' f * V0) = d at grow
  have hdp : 0 < d := by grind
  obtain ⟨j, hj⟩ := nat_above ((K * sqN N (mk' f * V0) + 1) / (c * d))
  have hcd : 0 < c * d := Rat.mul_pos hc hdp
  have h1 : K * sqN N (mk' f * V0) + 1 ≤ (j : Rat) * (c * d) := by
    have := Rat.mul_le_mul_of_nonneg_right hj (Rat.le_of_lt hcd)
    have e : (K * sqN N (mk' f * V0) + 1) / (c * d) * (c * d) = K * sqN N (mk' f * V0) + 1 := by
      rw [Rat.div_def, Rat.mul_assoc, Rat.inv_mul_cancel _ (by grind), Rat.mul_one]
    rw [e] at this
    exact this
  have h2 := Rat.mul_le_mul_of_nonneg_left (grow j) (Rat.le_of_lt hc)
  have h3 := Rat.mul_le_mul_of_nonneg_left (top (j * f.length)) (Rat.le_of_lt hK)
  grind
/-- of a steady led row the last number is of a size below 1 -/
theorem St_last {f : List Rat} (hf : cf f 0 = 1) (h2 : 2 ≤ f.length) (h : St (mk' f)) : ab (cf f (f.length - 1)) < 1 := by
  apply Classical.byContradiction
  intro hcon
  obtain ⟨e0, he0, hs⟩ := St_small (q := X ^ (f.length - 1)) (e := 0) h fun N V => sqN_Xk_le _ _ _
  obtain ⟨e, he, hk⟩ : ∃ e, ab e < e0 ∧ 1 < (cf f (f.length - 1) + e) * (cf f (f.length - 1) + e) := by
    generalize cf f (f.length - 1) = k at hcon
    rcases (show k < 0 ∨ 0 ≤ k by grind) with hk | hk
    · refine ⟨-(e0 / 2), by unfold ab; grind, ?_⟩
      have : k ≤ -1 := by unfold ab at hcon; grind
      have := Rat.mul_pos (show 0 < -k + e0 / 2 - 1 by grind) (show 0 < -k + e0 / 2 + 1 by grind)
      grind
    · refine ⟨e0 / 2, by unfold ab; grind, ?_⟩
      have : 1 ≤ k := by unfold ab at hcon; grind
      have := Rat.mul_pos (show 0 < k + e0 / 2 - 1 by grind) (show 0 < k + e0 / 2 + 1 by grind)
      grind
  have hset : mk' (f.set (f.length - 1) (cf f (f.length - 1) + e)) = mk' f + C e * X ^ (f.length - 1) := by
    rw [mk_set _ _ _ (by omega)]; congr 3; grind
  have st := hs e he
  rw [← hset] at st
  have c0 : cf (f.set (f.length - 1) (cf f (f.length - 1) + e)) 0 = 1 := by
    rw [cf_set _ _ _ _ (by omega), if_neg (by omega)]; exact hf
  have m := mirror_le c0 st 1 1
  have r0 : (mk' (f.set (f.length - 1) (cf f (f.length - 1) + e)).reverse).c 0 = cf f (f.length - 1) + e := by
    rw [c_mk, cf_eq]
    simp only [List.getD_eq_getElem?_getD]
    rw [List.getElem?_reverse (by rw [List.length_set]; omega), List.length_set]
    have := cf_set f (f.length - 1) (f.length - 1) (cf f (f.length - 1) + e) (by omega)
    rw [if_pos rfl, cf_eq] at this
    simp only [List.getD_eq_getElem?_getD] at this
    rw [show f.length - 1 - 0 = f.length - 1 by omega]
    exact this
  rw [sqN_succ, sqN_zero, sqN_succ, sqN_zero, c0_mul, c0_mul, r0, c_mk, c0] at m
  have e1 : (1 : P).c 0 = 1 := c_C0 1
  rw [e1] at m
  grind
/-- the next row's numbers -/
def nextL (f : List Rat) (k : Rat) : List Rat := (List.range (f.length - 1)).map fun i => (cf f i - k * cf f (f.length - 1 - i)) / (1 - k * k)
theorem nextL_len (f : List Rat) (k : Rat) : (nextL f k).length = f.length - 1 := by unfold nextL; simp
end P
end Dn
set_option Elab.async false
set_option linter.all false
set_option maxRecDepth 100000
/-! DnS3: steadiness by bends; the package's look, walked. -/
namespace Dn
open PySem
open P (Sg St)
namespace P
theorem next_mk {f : List Rat} (hf : cf f 0 = 1) (hl : 1 ≤ f.length) (hk : 1 - cf f (f.length - 1) * cf f (f.length - 1) ≠ 0) :
    C (1 - cf f (f.length - 1) * cf f (f.length - 1)) * mk' (nextL f (cf f (f.length - 1))) = mk' f + C (-cf f (f.length - 1)) * mk' f.reverse := ext fun i => by
  rw [C_mul, c_add, C_mul, c_mk, c_mk, c_mk, cf_rev]
  unfold nextL
  rw [cf_range]
  by_cases h1 : i < f.length - 1
  · rw [if_pos h1, if_pos (by omega)]; grind
  · rw [if_neg h1]
    by_cases h2 : i < f.length
    · have : i = f.length - 1 := by omega
      subst this
      rw [if_pos h2, Nat.sub_self, hf]; grind
    · rw [if_neg h2, cf_ge f i (by omega)]; grind
theorem ab_sq {k : Rat} (h : ab k < 1) : 0 < 1 - k * k := by
  have h0 := ab_nn k
  have e : k * k = ab k * ab k := by unfold ab; split <;> grind
  have := Rat.mul_pos (show 0 < 1 - ab k by grind) (show 0 < 1 + ab k by grind)
  grind
theorem next_c0 {f : List Rat} (hf : cf f 0 = 1) (hl : 2 ≤ f.length) (h : ab (cf f (f.length - 1)) < 1) : cf (nextL f (cf f (f.length - 1))) 0 = 1 := by
  have := ab_sq h
  unfold nextL
  rw [cf_range, if_pos (by omega), hf, Nat.sub_zero]
  rw [Rat.div_def, Rat.mul_inv_cancel _ (by grind)]
theorem St_next {f : List Rat} (hf : cf f 0 = 1) (hl : 2 ≤ f.length) (h : St (mk' f)) : St (mk' (nextL f (cf f (f.length - 1)))) := by
  have hk := St_last hf hl h
  have hs := ab_sq hk
  have hm := mirror_le hf h
  have e := next_mk hf (by omega) (by grind)
  obtain ⟨c, hc, hb⟩ := h
  generalize cf f (f.length - 1) = k at hk hs e
  have h0 := ab_nn k
  refine ⟨(1 - ab k) * (1 - ab k) * c, Rat.mul_pos (Rat.mul_pos (by grind) (by grind)) hc, fun N V => ?_⟩
  have h1 := sqN_low N (mk' f * V) (mk' f.reverse * V) (-k)
  have e2 : mk' f * V + C (-k) * (mk' f.reverse * V) = C (1 - k * k) * (mk' (nextL f k) * V) := by
    rw [show mk' f * V + C (-k) * (mk' f.reverse * V) = (mk' f + C (-k) * mk' f.reverse) * V by grind, ← e]; grind
  rw [e2, sqN_C, ab_neg] at h1
  have h2 := Rat.mul_le_mul_of_nonneg_left (hm N V) (Rat.mul_nonneg (show 0 ≤ 1 - ab k by grind) h0)
  have h3 := Rat.mul_le_mul_of_nonneg_left (hb N V) (Rat.mul_nonneg (show 0 ≤ 1 - ab k by grind) (show 0 ≤ 1 - ab k by grind))
  have h4 : (1 - k * k) * (1 - k * k) ≤ 1 := by
    have := sq_nn k
    have := Rat.mul_nonneg (show 0 ≤ 1 - k * k by grind) (sq_nn k)
    grind
  have h5 := Rat.mul_le_mul_of_nonneg_right h4 (sqN_nn N (mk' (nextL f k) * V))
  grind
theorem St_bend {S : List Rat} {b : Rat} (hS : cf S 0 = 1) (h : St (mk' S)) (hb : ab b < 1) : St (mk' (bendL S b)) := by
  have hm := mirror_le hS h
  obtain ⟨c, hc, hst⟩ := h
  have h0 := ab_nn b
  refine ⟨(1 - ab b) * (1 - ab b) * c, Rat.mul_pos (Rat.mul_pos (by grind) (by grind)) hc, fun N V => ?_⟩
  have h1 := sqN_low N (mk' S * V) (X * (mk' S.reverse * V)) b
  have e2 : mk' S * V + C b * (X * (mk' S.reverse * V)) = mk' (bendL S b) * V := by rw [bendL_mk]; grind
  rw [e2] at h1
  have h2 := sqN_X_le N (mk' S.reverse * V)
  have h3 := hm N V
  have h4 := Rat.mul_le_mul_of_nonneg_left (show sqN N (X * (mk' S.reverse * V)) ≤ sqN N (mk' S * V) by grind) (Rat.mul_nonneg (show 0 ≤ 1 - ab b by grind) h0)
  have h5 := Rat.mul_le_mul_of_nonneg_left (hst N V) (Rat.mul_nonneg (show 0 ≤ 1 - ab b by grind) (show 0 ≤ 1 - ab b by grind))
  grind
theorem bend_next {f : List Rat} (hf : cf f 0 = 1) (hl : 2 ≤ f.length) (h : ab (cf f (f.length - 1)) < 1) : mk' (bendL (nextL f (cf f (f.length - 1))) (cf f (f.length - 1))) = mk' f := ext fun i => by
  have hs := ab_sq h
  rw [c_mk, c_mk]
  unfold bendL
  rw [cf_range, nextL_len, cf_app0, cf_app0]
  unfold nextL
  rw [cf_range, cf_range]
  by_cases h1 : i < f.length
  · rw [if_pos (by omega)]
    by_cases h2 : i < f.length - 1
    · rw [if_pos h2]
      by_cases h3 : i = 0
      · subst h3
        rw [if_neg (by omega), hf, Nat.sub_zero]
        grind
      · rw [if_pos (by omega), show f.length - 1 - (f.length - 1 - i) = i by omega]
        grind
    · have : i = f.length - 1 := by omega
      subst this
      rw [if_neg (by omega), Nat.sub_self, if_pos (by omega), hf, Nat.sub_zero]
      grind
  · rw [if_neg (by omega), cf_ge f i (by omega)]
theorem St_iff {f : List Rat} (hf : cf f 0 = 1) (hl : 2 ≤ f.length) : St (mk' f) ↔ ab (cf f (f.length - 1)) < 1 ∧ St (mk' (nextL f (cf f (f.length - 1)))) := by
  constructor
  · intro h; exact ⟨St_last hf hl h, St_next hf hl h⟩
  · intro ⟨h1, h2⟩
    have := St_bend (next_c0 hf hl h1) h2 h1
    rwa [bend_next hf hl h1] at this
theorem St_one_list {f : List Rat} (hf : cf f 0 = 1) (hl : f.length ≤ 1) : St (mk' f) := by
  have e : mk' f = 1 := ext fun i => by
    rw [c_mk]
    cases i with
    | zero => rw [hf]; exact (c_C0 1).symm
    | succ i => rw [cf_ge f (i + 1) (by omega)]; exact (c_CS 1 i).symm
  rw [e]; exact St_one
theorem Bent_st {t : Nat} {S : List Rat} (h : Bent t S) : St (mk' S) := by
  induction h with
  | one => exact St_one_list rfl (by decide)
  | step hS hb _ ih => exact St_bend hS.c0 ih hb
theorem next_Ht {a : Nat} {f : List Rat} (h : Ht a (mk' f)) (hf : cf f 0 = 1) (hl : 1 ≤ f.length) (hk : ab (cf f (f.length - 1)) < 1) : Ht (2 * a + 1) (mk' (nextL f (cf f (f.length - 1)))) := by
  have hs := ab_sq hk
  have e := next_mk hf hl (by grind)
  obtain ⟨D, hD⟩ := h
  have lk := H_lead hD (f.length - 1)
  rw [c_mk] at lk
  generalize cf f (f.length - 1) = k at hk hs e lk
  obtain ⟨h1, h2, h3, h4, h5⟩ := hD
  have hp : ((2 ^ (2 * a + 1) : Nat) : Rat) = 2 * (((2 ^ a : Nat) : Rat) * ((2 ^ a : Nat) : Rat)) := by
    rw [show 2 * a + 1 = a + a + 1 by omega, pow_add, pow_add]; show _ * (2 : Rat) = _; grind
  have hDk : zI (D * D - (k * D) * (k * D)) := zI_sub (zI_mul h1 h1) (zI_mul lk.1 lk.1)
  have eD : D * D - (k * D) * (k * D) = D * D * (1 - k * k) := by grind
  have hpos : 0 < D * D * (1 - k * k) := Rat.mul_pos (Rat.mul_pos (by grind) (by grind)) hs
  have h1' : 1 ≤ D * D * (1 - k * k) := by
    have := zI_one hDk (by rw [eD]; grind)
    rw [eD, ab_of_nn (by grind)] at this
    exact this
  have hDD : D * D ≤ ((2 ^ a : Nat) : Rat) * ((2 ^ a : Nat) : Rat) := mul_mono h3 h3 (by grind) (by grind)
  have hkk := sq_nn k
  have hle : D * D * (1 - k * k) ≤ D * D := by
    have := Rat.mul_nonneg (Rat.mul_nonneg (show 0 ≤ D by grind) (show 0 ≤ D by grind)) hkk
    grind
  refine ⟨D * D * (1 - k * k), by rw [← eD]; exact hDk, h1', by rw [hp]; grind, fun i => ?_, ?_⟩
  · have ei := congrArg (fun p => P.c p i) e
    simp only [C_mul, c_add] at ei
    have hr := H_rev (S := f) (D := D) (A := ((2 ^ a : Nat) : Rat)) ⟨h1, h2, h3, h4, h5⟩
    have z1 := h4 i
    have z2 := hr.2.2.2.1 i
    have : (mk' (nextL f k)).c i * (D * D * (1 - k * k)) = D * ((mk' f).c i * D) - (k * D) * ((mk' f.reverse).c i * D) := by grind
    rw [this]
    exact zI_sub (zI_mul h1 z1) (zI_mul lk.1 z2)
  · have hr := H_rev (S := f) (D := D) (A := ((2 ^ a : Nat) : Rat)) ⟨h1, h2, h3, h4, h5⟩
    have q1 := n1_add (mk' f) (C (-k) * mk' f.reverse)
    rw [← e, n1_Cmul, n1_Cmul, ab_neg, ab_of_nn (show 0 ≤ 1 - k * k by grind)] at q1
    have n2 := hr.2.2.2.2
    have n3 := n1_nn (mk' f.reverse)
    have n4 := Rat.mul_le_mul_of_nonneg_right (Rat.le_of_lt hk) n3
    have n5 : (1 - k * k) * (mk' (nextL f k)).n1 ≤ (mk' f).n1 + (mk' f.reverse).n1 := by grind
    have n6 := Rat.mul_le_mul_of_nonneg_right n5 (show 0 ≤ D * D from Rat.mul_nonneg (by grind) (by grind))
    have n7 := mul_mono h5 h3 (by grind) (by grind)
    have n8 := mul_mono n2 h3 (by grind) (by grind)
    rw [hp]
    grind
end P
theorem num_ab (x : Rat) : decide ((x.den : Int) ≤ (if x.num < 0 then -x.num else x.num)) = !decide (ab x < 1) := by
  have h1 : (0 : Rat) < ((x.den : Int) : Rat) := by
    have : ((0 : Int) : Rat) < ((x.den : Int) : Rat) := Rat.intCast_lt_intCast.mpr (by have := x.den_nz; omega)
    exact this
  have e2 : x * ((x.den : Int) : Rat) = (x.num : Rat) := by
    have e := Rat.num_divInt_den x
    rw [Rat.divInt_eq_div] at e
    have e3 : x = (x.num : Rat) * ((x.den : Int) : Rat)⁻¹ := by rw [← Rat.div_def]; exact e.symm
    have : (x.num : Rat) * ((x.den : Int) : Rat)⁻¹ * ((x.den : Int) : Rat) = x.num := by rw [Rat.mul_assoc, Rat.inv_mul_cancel _ (by grind), Rat.mul_one]
    rw [← e3] at this
    exact this
  have e3 : ab x * ((x.den : Int) : Rat) = (((if x.num < 0 then -x.num else x.num) : Int) : Rat) := by
    have : ab ((x.den : Int) : Rat) = ((x.den : Int) : Rat) := ab_of_nn (by grind)
    rw [← this, ← ab_mul, e2]
    unfold ab
    by_cases hz0 : x.num < 0
    · rw [if_pos hz0, if_pos (by rw [← Rat.intCast_zero]; exact Rat.intCast_lt_intCast.mpr hz0), ← Rat.intCast_neg]
    · rw [if_neg hz0, if_neg (by rw [← Rat.intCast_zero, Rat.intCast_lt_intCast]; exact hz0)]
  generalize (if x.num < 0 then -x.num else x.num) = y at e3
  by_cases h : ab x < 1
  · have : ¬ (x.den : Int) ≤ y := by
      intro hy
      have hy2 : ((x.den : Int) : Rat) ≤ (y : Rat) := Rat.intCast_le_intCast.mpr hy
      rw [← e3] at hy2
      have := Rat.mul_lt_mul_of_pos_right h h1
      grind
    rw [decide_eq_false this, decide_eq_true h]; rfl
  · have : (x.den : Int) ≤ y := by
      apply Rat.intCast_le_intCast.mp
      rw [← e3]
      have := Rat.mul_le_mul_of_nonneg_right (show 1 ≤ ab x by grind) (Rat.le_of_lt h1)
      grind
    rw [decide_eq_true this, decide_eq_false h]; rfl
end Dn
set_option Elab.async false
set_option linter.all false
/-! DnG1: denominators of divisors (Gauss); sizes of steady rows. Plain Lean. -/
namespace Dn
namespace P
theorem exists_min {Q : Nat → Prop} (h : ∃ n, Q n) : ∃ n, Q n ∧ ∀ m, m < n → ¬ Q m := by
  obtain ⟨n, hn⟩ := h
  induction n using Nat.strongRecOn with
  | ind n ih =>
    by_cases hm : ∃ m, m < n ∧ Q m
    · obtain ⟨m, h1, h2⟩ := hm
      exact ih m h1 h2
    · exact ⟨n, hn, fun m h1 h2 => hm ⟨m, h1, h2⟩⟩
theorem den_ex (p : P) : ∃ a : Nat, 0 < a ∧ I (a : Rat) p := by
  have key : ∀ f : List Rat, ∃ a : Nat, 0 < a ∧ ∀ i, zI (cf f i * (a : Rat)) := by
    intro f
    induction f with
    | nil => exact ⟨1, by omega, fun i => by rw [cf_nil, Rat.zero_mul]; exact zI_zero⟩
    | cons x f ih =>
      obtain ⟨a, ha, h⟩ := ih
      refine ⟨x.den * a, Nat.mul_pos (Nat.pos_of_ne_zero x.den_nz) ha, fun i => ?_⟩
      have ex : zI (x * (x.den : Rat)) := by
        refine ⟨x.num, ?_⟩
        have e := Rat.num_divInt_den x
        rw [Rat.divInt_eq_div] at e
        have hd : ((x.den : Int) : Rat) ≠ 0 := by
          intro z
          have : (x.den : Int) = 0 := Rat.intCast_inj.mp (by rw [z]; rfl)
          exact x.den_nz (by omega)
        show x * ((x.den : Int) : Rat) = _
        have e3 : x = (x.num : Rat) * ((x.den : Int) : Rat)⁻¹ := by rw [← Rat.div_def]; exact e.symm
        have : (x.num : Rat) * ((x.den : Int) : Rat)⁻¹ * ((x.den : Int) : Rat) = x.num := by rw [Rat.mul_assoc, Rat.inv_mul_cancel _ hd, Rat.mul_one]
        rw [← e3] at this
        exact this
      rw [Rat.natCast_mul]
      cases i with
      | zero =>
        rw [cf_zero, ← Rat.mul_assoc]; exact zI_mul ex (zI_nat a)
      | succ i =>
        rw [cf_succ, show cf f i * ((x.den : Rat) * (a : Rat)) = cf f i * (a : Rat) * (x.den : Rat) by grind]; exact zI_mul (h i) (zI_nat _)
  exact key p.l
/-- the least divisor above 1 -/
theorem prime_ex {t : Nat} (ht : 1 < t) : ∃ q : Nat, 1 < q ∧ q ∣ t ∧ ∀ a b : Int, (q : Int) ∣ a * b → (q : Int) ∣ a ∨ (q : Int) ∣ b := by
  obtain ⟨q, ⟨h1, h2⟩, h3⟩ := exists_min (Q := fun q => 1 < q ∧ q ∣ t) ⟨t, ht, Nat.dvd_refl t⟩
  refine ⟨q, h1, h2, fun a b hab => ?_⟩
  have hg : Nat.gcd q a.natAbs ∣ q := Nat.gcd_dvd_left _ _
  by_cases h : 1 < Nat.gcd q a.natAbs
  · left
    have hle := Nat.le_of_dvd (by omega) hg
    have : ¬ Nat.gcd q a.natAbs < q := fun hlt => h3 _ hlt ⟨h, Nat.dvd_trans hg h2⟩
    have e : Nat.gcd q a.natAbs = q := by omega
    have : q ∣ a.natAbs := by have := Nat.gcd_dvd_right q a.natAbs; rwa [e] at this
    exact Int.ofNat_dvd_left.mpr this
  · right
    have hp : 0 < Nat.gcd q a.natAbs := Nat.gcd_pos_of_pos_left _ (by omega)
    have hc : Nat.Coprime q a.natAbs := by unfold Nat.Coprime; omega
    have : q ∣ a.natAbs * b.natAbs := by rw [← Int.natAbs_mul]; exact Int.ofNat_dvd_left.mp hab
    exact Int.ofNat_dvd_left.mpr (hc.dvd_of_dvd_mul_left this)
/-- whole up to a divisor q below the place i -/
theorem low_part {q : Rat} (hq : q ≠ 0) : ∀ (i : Nat) (U : P), I 1 U → (∀ j, j < i → zI (U.c j / q)) → ∃ A U', U = C q * A + X ^ i * U' ∧ I 1 A ∧ I 1 U' ∧ U'.c 0 = U.c i
  | i, U, hU, h => by
    obtain ⟨A, hA⟩ : ∃ A : P, A = mk' ((U.l.take i).map (· / q)) := ⟨_, rfl⟩
    have hAc : ∀ j, A.c j = if j < i then U.c j / q else 0 := fun j => by
      rw [hA, c_mk]
      have : cf ((U.l.take i).map (· / q)) j = cf (U.l.take i) j / q := by
        have := cf_smL (1 / q) (U.l.take i) j
        unfold smL at this
        rw [show (U.l.take i).map (· / q) = (U.l.take i).map ((1 / q) * ·) from List.map_congr_left fun x _ => by grind, this]; grind
      rw [this, cf_take]
      split
      · rfl
      · grind
    refine ⟨A, mk' (U.l.drop i), ext fun j => ?_, fun j => ?_, fun j => ?_, ?_⟩
    · rw [c_add, C_mul, hAc]
      by_cases hj : j < i
      · rw [if_pos hj, Xk_low _ _ _ hj]; grind
      · rw [if_neg hj]
        have : (X ^ i * mk' (U.l.drop i)).c j = U.c j := by
          rw [show j = (j - i) + i by omega, Xk_mul, c_mk, cf_eq]
          show _ = cf U.l _
          rw [cf_eq]
          simp only [List.getD_eq_getElem?_getD, List.getElem?_drop]
          rw [Nat.add_comm]
        rw [this]; grind
    · rw [hAc]
      split
      · rename_i hj
        rw [Rat.mul_one]; exact h j hj
      · rw [Rat.zero_mul]; exact zI_zero
    · have : (mk' (U.l.drop i)).c j = U.c (i + j) := by
        rw [c_mk, cf_eq]
        show _ = cf U.l _
        rw [cf_eq]
        simp only [List.getD_eq_getElem?_getD, List.getElem?_drop]
      rw [this]; exact hU _
    · rw [c_mk, cf_eq]
      show _ = cf U.l i
      rw [cf_eq]
      simp only [List.getD_eq_getElem?_getD, List.getElem?_drop, Nat.add_zero]
theorem dvd_zI {q : Nat} (hq : q ≠ 0) {x : Rat} {z : Int} (hx : x = z) : zI (x / (q : Rat)) ↔ (q : Int) ∣ z := by
  have hq0 : ((q : Nat) : Rat) ≠ 0 := by
    intro h
    have : ((q : Int) : Rat) = ((0 : Int) : Rat) := h
    have := Rat.intCast_inj.mp this
    omega
  constructor
  · intro ⟨y, hy⟩
    refine ⟨y, ?_⟩
    apply Rat.intCast_inj.mp
    rw [Rat.intCast_mul, ← hx, ← hy]
    show x = (q : Rat) * (x / (q : Rat))
    grind
  · intro ⟨y, hy⟩
    refine ⟨y, ?_⟩
    rw [hx, hy, Rat.intCast_mul]
    show (q : Rat) * (y : Rat) / (q : Rat) = y
    grind
/-- led factors' denominators divide those of the product -/
theorem gauss {u g : P} {D : Nat} (hu : u.c 0 = 1) (hg : g.c 0 = 1) (hD : 0 < D) (h : I (D : Rat) (u * g)) : I (D : Rat) u := by
  obtain ⟨a, ⟨ha, ia⟩, ma⟩ := exists_min (den_ex u)
  obtain ⟨b, ⟨hb, ib⟩, mb⟩ := exists_min (den_ex g)
  have ca : ∀ n : Nat, 0 < n → ((n : Nat) : Rat) ≠ 0 := fun n hn z => by
    have : ((n : Int) : Rat) = ((0 : Int) : Rat) := z
    have := Rat.intCast_inj.mp this
    omega
  have ha0 := ca a ha
  have hb0 := ca b hb
  -- it is enough that a divides D
  suffices hs : a * b ∣ D by
    obtain ⟨e, he⟩ := Nat.dvd_trans (Nat.dvd_mul_right a b) hs
    rw [he, Rat.natCast_mul]
    exact I_sc ia (zI_nat e)
  apply Classical.byContradiction
  intro hnd
  -- the part of a b that is not in D
  have hab : 0 < a * b := Nat.mul_pos ha hb
  obtain ⟨s, hs⟩ := Nat.gcd_dvd_left D (a * b)
  obtain ⟨t, ht⟩ := Nat.gcd_dvd_right D (a * b)
  have hgp : 0 < Nat.gcd D (a * b) := Nat.gcd_pos_of_pos_left _ hD
  generalize hG : Nat.gcd D (a * b) = G at hs ht hgp
  have hco : Nat.gcd s t = 1 := by
    have : G * Nat.gcd s t = G := by
      rw [← Nat.gcd_mul_left, ← hs, ← ht, hG]
    have : G * Nat.gcd s t = G * 1 := by omega
    exact Nat.eq_of_mul_eq_mul_left hgp this
  have ht1 : 1 < t := by
    rcases Nat.lt_trichotomy t 1 with h | h | h
    · have : t = 0 := by omega
      rw [this] at ht; omega
    · exfalso; apply hnd; rw [ht, h, Nat.mul_one, hs]; exact Nat.dvd_mul_right _ _
    · exact h
  obtain ⟨q, hq1, hqt, hq⟩ := prime_ex ht1
  have hq0 := ca q (by omega)
  -- the whole rows
  have iU : I 1 (C (a : Rat) * u) := fun i => by rw [C_mul, Rat.mul_one, Rat.mul_comm]; exact ia i
  have iG : I 1 (C (b : Rat) * g) := fun i => by rw [C_mul, Rat.mul_one, Rat.mul_comm]; exact ib i
  have prodc : ∀ i, zI ((C (a : Rat) * u * (C (b : Rat) * g)).c i / (q : Rat)) := fun i => by
    have e1 : C (a : Rat) * u * (C (b : Rat) * g) = C ((a * b : Nat) : Rat) * (u * g) := by rw [Rat.natCast_mul, C_mulC]; grind
    have iUG := I_mul iU iG i
    rw [Rat.mul_one, Rat.mul_one] at iUG
    obtain ⟨z, hz⟩ := iUG
    rw [dvd_zI (by omega) hz]
    -- t divides z
    have hzt : (t : Int) ∣ z := by
      obtain ⟨y, hy⟩ := h i
      rw [e1, C_mul] at hz
      have e2 : (s : Int) * z = t * y := by
        apply Rat.intCast_inj.mp
        rw [Rat.intCast_mul, Rat.intCast_mul, ← hz, ← hy, ht, hs, Rat.natCast_mul, Rat.natCast_mul]
        show (s : Rat) * ((G : Rat) * (t : Rat) * _) = (t : Rat) * (_ * ((G : Rat) * (s : Rat)))
        grind
      have : (t : Int) ∣ (s : Int) * z := ⟨y, e2⟩
      have h2 : t ∣ s * z.natAbs := by
        have := Int.ofNat_dvd_left.mp this
        rwa [Int.natAbs_mul, Int.natAbs_natCast] at this
      exact Int.ofNat_dvd_left.mpr (Nat.Coprime.dvd_of_dvd_mul_left (show Nat.Coprime t s by unfold Nat.Coprime; rw [Nat.gcd_comm]; exact hco) h2)
    exact Int.dvd_trans (Int.natCast_dvd_natCast.mpr hqt) hzt
  -- not all numbers of either are divided by q
  have first : ∀ (v : P) (e : Nat), 0 < e → v.c 0 = 1 → I (e : Rat) v → (∀ m, m < e → ¬ (0 < m ∧ I (m : Rat) v)) → ∃ i, ¬ zI ((C (e : Rat) * v).c i / (q : Rat)) := fun v e he hv0 hve hm => by
    apply Classical.byContradiction
    intro hall
    have hall : ∀ i, zI ((C (e : Rat) * v).c i / (q : Rat)) := fun i => Classical.byContradiction fun hi => hall ⟨i, hi⟩
    have h0 := hall 0
    rw [C_mul, hv0, Rat.mul_one] at h0
    have hqe : q ∣ e := by
      have := (dvd_zI (q := q) (x := (e : Rat)) (z := (e : Int)) (by omega) rfl).mp h0
      exact Int.natCast_dvd_natCast.mp this
    obtain ⟨m, hm2⟩ := hqe
    have hmp : 0 < m := by rcases Nat.eq_zero_or_pos m with h | h; · rw [h] at hm2; omega
                           · exact h
    have hml : m < e := by
      rw [hm2]
      have := Nat.mul_lt_mul_of_pos_right hq1 hmp
      omega
    refine hm m hml ⟨hmp, fun i => ?_⟩
    have := hall i
    rw [C_mul, hm2, Rat.natCast_mul] at this
    have e3 : (q : Rat) * (m : Rat) * v.c i / (q : Rat) = v.c i * (m : Rat) := by grind
    rwa [e3] at this
  obtain ⟨i, hi, mi⟩ := exists_min (first u a ha hu ia ma)
  obtain ⟨j, hj, mj⟩ := exists_min (first g b hb hg ib mb)
  obtain ⟨A, U', e1, iA, iU', c1⟩ := low_part hq0 i _ iU fun k hk => Classical.byContradiction (mi k hk)
  obtain ⟨B, G', e2, iB, iG', c2⟩ := low_part hq0 j _ iG fun k hk => Classical.byContradiction (mj k hk)
  have hp := prodc (i + j)
  have e3 : C (a : Rat) * u * (C (b : Rat) * g) = C (q : Rat) * (A * (C (b : Rat) * g) + X ^ i * U' * B) + X ^ (i + j) * (U' * G') := by
    rw [Lean.Grind.Semiring.pow_add]
    have h5 : X ^ i * U' * (C (b : Rat) * g) = X ^ i * U' * (C (q : Rat) * B + X ^ j * G') := by rw [← e2]
    have h6 : C (a : Rat) * u * (C (b : Rat) * g) = (C (q : Rat) * A + X ^ i * U') * (C (b : Rat) * g) := by rw [← e1]
    grind
  have hx : (X ^ (i + j) * (U' * G')).c (i + j) = U'.c 0 * G'.c 0 := by
    have := Xk_mul (i + j) (U' * G') 0
    rw [Nat.zero_add] at this
    rw [this, c0_mul]
  rw [e3, c_add, C_mul, hx, c1, c2] at hp
  have iR : zI ((A * (C (b : Rat) * g) + X ^ i * U' * B).c (i + j)) := by
    have h1 := I_mul iA iG
    have h2 := I_mul (I_Xk i iU') iB
    rw [Rat.mul_one] at h1 h2
    have := I_add h1 h2 (i + j)
    rwa [Rat.mul_one] at this
  obtain ⟨x, hx1⟩ := iU i
  rw [Rat.mul_one] at hx1
  obtain ⟨y, hy1⟩ := iG j
  rw [Rat.mul_one] at hy1
  have hd : (q : Int) ∣ x * y := by
    rw [← dvd_zI (q := q) (x := (C (a : Rat) * u).c i * (C (b : Rat) * g).c j) (by omega) (by rw [hx1, hy1, Rat.intCast_mul])]
    have e4 : (C (a : Rat) * u).c i * (C (b : Rat) * g).c j / (q : Rat) = ((q : Rat) * (A * (C (b : Rat) * g) + X ^ i * U' * B).c (i + j) + (C (a : Rat) * u).c i * (C (b : Rat) * g).c j) / (q : Rat) - (A * (C (b : Rat) * g) + X ^ i * U' * B).c (i + j) := by grind
    rw [e4]
    exact zI_sub hp iR
  rcases hq x y hd with h | h
  · exact hi ((dvd_zI (by omega) hx1).mpr h)
  · exact hj ((dvd_zI (by omega) hy1).mpr h)
/-- a steady led row's sum of sizes -/
theorem St_n1 : ∀ (n : Nat) (f : List Rat), f.length = n + 1 → cf f 0 = 1 → St (mk' f) → (mk' f).n1 ≤ ((2 ^ n : Nat) : Rat)
  | 0, f, hl, h0, _ => by
    obtain ⟨x, rfl⟩ : ∃ x, f = [x] := by
      match f, hl with
      | [x], _ => exact ⟨x, rfl⟩
    have hx : x = 1 := h0
    subst hx
    have : ab 1 = 1 := by unfold ab; grind
    rw [n1_mk]
    simp only [n1L, this]
    show (1 : Rat) + 0 ≤ 1
    grind
  | n + 1, f, hl, h0, h => by
    obtain ⟨hk, hn⟩ := (St_iff h0 (by omega)).mp h
    have ih := St_n1 n (nextL f (cf f (f.length - 1))) (by rw [nextL_len]; omega) (next_c0 h0 (by omega) hk) hn
    have e := bend_next h0 (by omega) hk
    rw [← e, bendL_mk]
    generalize nextL f (cf f (f.length - 1)) = S at ih
    generalize cf f (f.length - 1) = b at hk
    have h1 := n1_add (mk' S) (C b * (X * mk' S.reverse))
    rw [n1_Cmul, n1_X, n1_mk S.reverse, n1L_rev, ← n1_mk] at h1
    have h2 := Rat.mul_le_mul_of_nonneg_right (Rat.le_of_lt hk) (n1_nn (mk' S))
    have e2 : ((2 ^ (n + 1) : Nat) : Rat) = 2 * ((2 ^ n : Nat) : Rat) := by rw [pow_add]; show _ * (2 : Rat) = _; grind
    rw [e2]; grind
/-- a led divisor of a steady led row -/
theorem St_div {a : Nat} {u g c : P} (hc : St c) (e : c = u * g) (hu : u.c 0 = 1) (hg : g.c 0 = 1) (ha : Ht a c) : Ht (a + u.len) u := by
  obtain ⟨D, h1, h2, h3, h4, h5⟩ := ha
  obtain ⟨z, rfl⟩ := h1
  have hz : (1 : Int) ≤ z := by rw [← Rat.intCast_one] at h2; exact Rat.intCast_le_intCast.mp h2
  obtain ⟨D, rfl⟩ : ∃ D : Nat, z = (D : Int) := ⟨z.toNat, by omega⟩
  have hD : 0 < D := by omega
  have hg2 := gauss hu hg hD (by rw [← e]; exact h4)
  have hu0 : u ≠ 0 := by intro z; rw [z, c_zero] at hu; exact absurd hu (by grind)
  have hl := len_pos hu0
  have hst : St u := by rw [e] at hc; exact St_left hc
  have hn := St_n1 (u.len - 1) u.l (by unfold len at hl ⊢; omega) hu (by rw [mk_l]; exact hst)
  rw [mk_l] at hn
  have hn' : u.n1 ≤ ((2 ^ u.len : Nat) : Rat) := by
    have := pow_mono (show u.len - 1 ≤ u.len by omega)
    grind
  have hp1 : (1 : Rat) ≤ ((2 ^ u.len : Nat) : Rat) := by
    have := pow_mono (Nat.zero_le u.len)
    exact this
  refine ⟨((D : Int) : Rat), ⟨_, rfl⟩, h2, ?_, hg2, ?_⟩
  · rw [pow_add]
    have := mul_mono h3 hp1 (by grind) (by grind)
    grind
  · rw [pow_add, Rat.mul_comm]
    exact mul_mono h3 hn' (n1_nn u) (by grind)
end P
end Dn
set_option Elab.async false
set_option linter.all false
/-! DnQ1: rows without zeros of the size 1/4 or less; sizes of their divisors. Plain Lean. -/
namespace Dn
def scL (r : Rat) : List Rat → List Rat
  | [] => []
  | a :: f => a :: smL r (scL r f)
theorem cf_scL (r : Rat) : ∀ (f : List Rat) (i : Nat), cf (scL r f) i = r ^ i * cf f i
  | [], i => by simp only [scL, cf_nil]; grind
  | a :: f, 0 => by simp only [scL, cf_zero]; rw [P.pw_zero]; grind
  | a :: f, i + 1 => by simp only [scL, cf_succ, cf_smL, cf_scL r f i]; rw [P.pw_succ]; grind
theorem cf_mul_sc (r : Rat) : ∀ (f g : List Rat) (i : Nat), cf (mulL (scL r f) (scL r g)) i = r ^ i * cf (mulL f g) i
  | [], g, i => by simp only [scL, mulL, cf_nil]; grind
  | a :: f, g, 0 => by simp only [scL, cf_mul0, cf_scL]; rw [P.pw_zero]; grind
  | a :: f, g, i + 1 => by simp only [scL, cf_mulS, cf_scL, cf_smM, cf_mul_sc r f g i]; rw [P.pw_succ]; grind
theorem scL_len (r : Rat) : ∀ f : List Rat, (scL r f).length = f.length
  | [] => rfl
  | a :: f => by simp only [scL, List.length_cons, smL, List.length_map, scL_len r f]
namespace P
/-- p(r d) -/
def sc (r : Rat) (p : P) : P := mk' (scL r p.l)
theorem c_sc (r : Rat) (p : P) (i : Nat) : (sc r p).c i = r ^ i * p.c i := by
  unfold sc
  rw [c_mk, cf_scL]; rfl
theorem sc_mul (r : Rat) (p q : P) : sc r (p * q) = sc r p * sc r q := ext fun i => by
  rw [c_sc, c_mul, c_mul]
  have e : cf (mulL (sc r p).l (sc r q).l) i = cf (mulL (scL r p.l) (scL r q.l)) i := by
    have h1 : ∀ j, cf (mulL (sc r p).l (sc r q).l) j = cf (mulL (sc r p).l (scL r q.l)) j := fun j => cf_mulR _ _ _ (fun k => cf_trim _ k) j
    have h2 : ∀ j, cf (mulL (scL r q.l) (sc r p).l) j = cf (mulL (scL r q.l) (scL r p.l)) j := fun j => cf_mulR _ _ _ (fun k => cf_trim _ k) j
    rw [h1, cf_comm, h2, cf_comm]
  rw [e, cf_mul_sc]
theorem sc_inv {r : Rat} (hr : r ≠ 0) (p : P) : sc r (sc (1 / r) p) = p := ext fun i => by
  rw [c_sc, c_sc]
  have : ∀ i : Nat, r ^ i * (1 / r) ^ i = 1 := by
    intro i
    induction i with
    | zero => rw [pw_zero, pw_zero]; grind
    | succ i ih => rw [pw_succ, pw_succ]; grind
  have := this i
  grind
theorem sc_sq {r : Rat} (hr : 0 < r) (hr1 : r ≤ 1) {c : Rat} {W Y : P} (h : ∀ k, c * sqN k W ≤ sqN k Y) : ∀ N, c * sqN N (sc r W) ≤ sqN N (sc r Y) := by
  have pp : ∀ i : Nat, 0 ≤ r ^ i := by
    intro i
    induction i with
    | zero => rw [pw_zero]; grind
    | succ i ih => rw [pw_succ]; exact Rat.mul_nonneg ih (Rat.le_of_lt hr)
  have key : ∀ N, r ^ N * r ^ N * (sqN N Y - c * sqN N W) ≤ sqN N (sc r Y) - c * sqN N (sc r W) := by
    intro N
    induction N with
    | zero => simp only [sqN_zero]; grind
    | succ N ih =>
      have h1 := h (N + 1)
      have h0 : r ^ (N + 1) * r ^ (N + 1) ≤ r ^ N * r ^ N := by
        rw [pw_succ]
        have a1 := Rat.mul_le_mul_of_nonneg_left hr1 (pp N)
        have a2 := Rat.mul_nonneg (pp N) (Rat.le_of_lt hr)
        have := mul_mono (show r ^ N * r ≤ r ^ N by grind) (show r ^ N * r ≤ r ^ N by grind) a2 (pp N)
        exact this
      have h2 := Rat.mul_le_mul_of_nonneg_right h0 (show 0 ≤ sqN (N + 1) Y - c * sqN (N + 1) W by grind)
      simp only [sqN_succ, c_sc] at h2 ⊢
      grind
  intro N
  have h1 := key N
  have h2 := h N
  have h3 := Rat.mul_nonneg (Rat.mul_nonneg (pp N) (pp N)) (show 0 ≤ sqN N Y - c * sqN N W by grind)
  grind
theorem St_sc {r : Rat} (hr : 0 < r) (hr1 : r ≤ 1) {p : P} (h : St p) : St (sc r p) := by
  obtain ⟨c, hc, h⟩ := h
  refine ⟨c, hc, fun N V => ?_⟩
  have e : sc r p * V = sc r (p * sc (1 / r) V) := by rw [sc_mul, sc_inv (by grind)]
  have := sc_sq hr hr1 (c := c) (W := sc (1 / r) V) (Y := p * sc (1 / r) V) (fun k => h k _) N
  rw [sc_inv (by grind)] at this
  rw [e]; exact this
/-- no zero of the size 1/4 or less -/
def Sr (p : P) : Prop := St (sc (1/4) p)
theorem Sr_of {p : P} (h : St p) : Sr p := St_sc (by grind) (by grind) h
theorem Sr_mul {p q : P} (hp : Sr p) (hq : Sr q) : Sr (p * q) := by unfold Sr; rw [sc_mul]; exact St_mul hp hq
theorem Sr_left {p q : P} (h : Sr (p * q)) : Sr p := by unfold Sr at h ⊢; rw [sc_mul] at h; exact St_left h
theorem n1_sc : ∀ (n : Nat) (f : List Rat), f.length ≤ n + 1 → n1L f ≤ ((4 ^ n : Nat) : Rat) * n1L (scL (1/4) f)
  | n, [], _ => by simp only [n1L, scL]; grind
  | 0, a :: f, h => by
    have : f = [] := List.length_eq_zero_iff.mp (by rw [List.length_cons] at h; omega)
    subst this
    have e : ((4 ^ 0 : Nat) : Rat) = 1 := rfl
    rw [e]
    simp only [scL, n1L, smL, List.map_nil]; grind
  | n + 1, a :: f, h => by
    have ih := n1_sc n f (by simp at h; omega)
    have e : ((4 ^ (n + 1) : Nat) : Rat) = 4 * ((4 ^ n : Nat) : Rat) := by rw [Nat.pow_succ, Rat.natCast_mul]; show _ * (4 : Rat) = _; grind
    have e1 : (1 : Rat) ≤ ((4 ^ n : Nat) : Rat) := by
      have : ((1 : Nat) : Rat) ≤ ((4 ^ n : Nat) : Rat) := Rat.natCast_le_natCast.mpr (Nat.pow_pos (by omega))
      exact this
    have h1 := Rat.mul_le_mul_of_nonneg_right e1 (ab_nn a)
    have h2 : ab (1/4) = 1/4 := ab_of_nn (by grind)
    have h3 := Rat.mul_nonneg (show (0 : Rat) ≤ ((4 ^ n : Nat) : Rat) by grind) (ab_nn a)
    simp only [scL, n1L, n1L_sm, h2, e]
    grind
/-- a led divisor of a led row without such zeros -/
theorem Sr_div {a : Nat} {u g c : P} (hc : Sr c) (e : c = u * g) (hu : u.c 0 = 1) (hg : g.c 0 = 1) (ha : Ht a c) : Ht (a + 3 * u.len) u := by
  obtain ⟨D, h1, h2, h3, h4, h5⟩ := ha
  obtain ⟨z, rfl⟩ := h1
  have hz : (1 : Int) ≤ z := by rw [← Rat.intCast_one] at h2; exact Rat.intCast_le_intCast.mp h2
  obtain ⟨D, rfl⟩ : ∃ D : Nat, z = (D : Int) := ⟨z.toNat, by omega⟩
  have hD : 0 < D := by omega
  have hg2 := gauss hu hg hD (by rw [← e]; exact h4)
  have hu0 : u ≠ 0 := by intro z; rw [z, c_zero] at hu; exact absurd hu (by grind)
  have hl := len_pos hu0
  have hst : St (sc (1/4) u) := by rw [e] at hc; exact Sr_left hc
  have hs0 : (sc (1/4) u).c 0 = 1 := by rw [c_sc, hu, pw_zero]; grind
  have hsl : (sc (1/4) u).len ≤ u.len := by
    have := len_mk (scL (1/4) u.l)
    rw [scL_len] at this
    exact this
  have hsn : sc (1/4) u ≠ 0 := by intro z; rw [z, c_zero] at hs0; exact absurd hs0 (by grind)
  have hsp := len_pos hsn
  have hn := St_n1 ((sc (1/4) u).len - 1) (sc (1/4) u).l (by unfold len at hsp ⊢; omega) hs0 (by rw [mk_l]; exact hst)
  rw [mk_l] at hn
  have hn' : (sc (1/4) u).n1 ≤ ((2 ^ u.len : Nat) : Rat) := by
    have := pow_mono (show (sc (1/4) u).len - 1 ≤ u.len by omega)
    grind
  have h4n := n1_sc u.len u.l (by show u.len ≤ u.len + 1; omega)
  have e4 : ((4 ^ u.len : Nat) : Rat) = ((2 ^ (2 * u.len) : Nat) : Rat) := by congr 1; rw [Nat.pow_mul]
  have hun : u.n1 ≤ ((2 ^ (3 * u.len) : Nat) : Rat) := by
    have : n1L (scL (1/4) u.l) = (sc (1/4) u).n1 := (n1_mk _).symm
    rw [this, e4] at h4n
    have h5 := Rat.mul_le_mul_of_nonneg_left hn' (show (0 : Rat) ≤ ((2 ^ (2 * u.len) : Nat) : Rat) by
      have := pow_mono (Nat.zero_le (2 * u.len))
      have e0 : ((2 ^ 0 : Nat) : Rat) = 1 := rfl
      grind)
    rw [← pow_add, show 2 * u.len + u.len = 3 * u.len by omega] at h5
    have : u.n1 = n1L u.l := rfl
    grind
  have hp1 : (1 : Rat) ≤ ((2 ^ (3 * u.len) : Nat) : Rat) := by
    have := pow_mono (Nat.zero_le (3 * u.len))
    exact this
  refine ⟨((D : Int) : Rat), ⟨_, rfl⟩, h2, ?_, hg2, ?_⟩
  · rw [pow_add]
    have := mul_mono h3 hp1 (by grind) (by grind)
    grind
  · rw [pow_add, Rat.mul_comm]
    exact mul_mono h3 hun (n1_nn u) (by grind)
/-- steadiness by bends, for numbers at hand -/
def stChk : Nat → List Rat → Bool
  | 0, _ => false
  | n + 1, f => if f.length ≤ 1 then true else decide (ab (cf f (f.length - 1)) < 1) && stChk n (nextL f (cf f (f.length - 1)))
theorem stChk_ok : ∀ (n : Nat) (f : List Rat), cf f 0 = 1 → stChk n f = true → St (mk' f)
  | 0, f, _, h => by simp [stChk] at h
  | n + 1, f, h0, h => by
    unfold stChk at h
    by_cases hl : f.length ≤ 1
    · exact St_one_list h0 hl
    · rw [if_neg hl, Bool.and_eq_true, decide_eq_true_eq] at h
      exact (St_iff h0 (by omega)).mpr ⟨h.1, stChk_ok n _ (next_c0 h0 (by omega) h.1) h.2⟩
theorem Sr_chk {f : List Rat} (h : stChk 5 (scL (1/4) f) = true) (h0 : cf f 0 = 1) : Sr (mk' f) := by
  have e : sc (1/4) (mk' f) = mk' (scL (1/4) f) := ext fun i => by rw [c_sc, c_mk, c_mk, cf_scL]
  unfold Sr
  rw [e]
  refine stChk_ok 5 _ ?_ h
  rw [cf_scL, h0, pw_zero]; grind
end P
end Dn
set_option Elab.async false
set_option linter.all false
set_option maxRecDepth 100000
/-! DnM14: machines drawn. -/
namespace Dn
open PySem
open P (Sg lin qd prod BzOk)
/-! ### the menus -/
def menu9 : List Rat := [1/2, 2, -1/2, 1/3, 2/3, 3, 3/4, -2, 1]
def menu3 : List Rat := [-3/2, -1/3, -1]
def menu12 : List Rat := menu9 ++ menu3
def lates : List P := [P.X, P.X, P.X * P.X]
def qMs : List (Rat × Rat) := [(1, 4), (1/2, 1/4), (0, 1)]
def qNs : List (Rat × Rat) := [(-1, 2), (0, 1/9)]
def qds (l : List (Rat × Rat)) : List P := l.map fun a => qd a.1 a.2
def gains : List Rat := [1, 2, -1, 3, -3, 1/2, -1/2, 3/2, -3/2]
theorem menu_ne : ∀ x ∈ menu12, x ≠ 0 ∧ Sm x ∧ P.Ht 4 (lin x) := by
  have h : menu12.all (fun x => decide (x ≠ 0) && decide (x.num.natAbs ≤ 8) && decide (x.den ≤ 8) && P.htOk 4 [1, -1 / x]) = true := by decide +kernel
  intro x hx
  have := List.all_eq_true.mp h x hx
  simp only [Bool.and_eq_true, decide_eq_true_eq] at this
  exact ⟨this.1.1.1, Sm_C (P.Ht_C (b := 3) this.1.1.2 this.1.2) (by omega), P.Ht_of this.2⟩
theorem lin_Sg {x : Rat} (h : x ∈ menu12) : Sg 4 3 (lin x) := ⟨(menu_ne x h).2.2, Nat.le_trans (P.len_lin x) (by omega)⟩
theorem bz_lin : ∀ z ∈ menu12, ∀ p ∈ menu12, z ≠ p → BzOk (lin z) (lin p) 1 1 := by
  have h : menu12.all (fun z => menu12.all fun p => decide (z = p) || P.linChk z (-1 / p) 0) = true := by decide +kernel
  intro z hz p hp hne
  have := List.all_eq_true.mp (List.all_eq_true.mp h z hz) p hp
  simp only [Bool.or_eq_true, decide_eq_true_eq] at this
  rw [P.lin_qd p]
  exact P.BzOk_lin (b := 0) (menu_ne z hz).1 (this.resolve_left hne)
theorem q_ne : ∀ a ∈ qMs ++ qNs, a.2 ≠ 0 := by
  have h : (qMs ++ qNs).all (fun a => decide (a.2 ≠ 0)) = true := by decide +kernel
  intro a ha
  simpa using List.all_eq_true.mp h a ha
theorem bz_lq : ∀ z ∈ menu12, ∀ a ∈ qMs ++ qNs, BzOk (lin z) (qd a.1 a.2) 2 1 := by
  have h : menu12.all (fun z => (qMs ++ qNs).all fun a => P.linChk z a.1 a.2) = true := by decide +kernel
  intro z hz a ha
  have := P.BzOk_lin (menu_ne z hz).1 (List.all_eq_true.mp (List.all_eq_true.mp h z hz) a ha)
  rwa [if_neg (q_ne a ha)] at this
theorem bz_Xl : ∀ p ∈ menu12, BzOk P.X (lin p) 1 1 := by
  have h : menu12.all (fun p => P.htOk 8 [-(-1 / p), -0]) = true := by decide +kernel
  intro p hp
  rw [P.lin_qd p]
  exact P.BzOk_X (b := 0) (List.all_eq_true.mp h p hp)
theorem bz_Xq : ∀ a ∈ qMs, BzOk P.X (qd a.1 a.2) 2 1 := by
  have h : qMs.all (fun a => P.htOk 8 [-a.1, -a.2]) = true := by decide +kernel
  intro a ha
  have := P.BzOk_X (List.all_eq_true.mp h a ha)
  rwa [if_neg (q_ne a (List.mem_append_left _ ha))] at this
theorem qd_Sg : ∀ a ∈ qMs ++ qNs, Sg 4 3 (qd a.1 a.2) := by
  have h : (qMs ++ qNs).all (fun a => P.htOk 4 [1, a.1, a.2]) = true := by decide +kernel
  intro a ha
  exact ⟨P.Ht_of (List.all_eq_true.mp h a ha), P.len_qd _ _⟩
theorem sr_lin : ∀ x ∈ menu12, P.Sr (lin x) := by
  have h : menu12.all (fun x => P.stChk 5 (scL (1/4) [1, -1 / x])) = true := by decide +kernel
  intro x hx
  exact P.Sr_chk (List.all_eq_true.mp h x hx) rfl
theorem sr_qd : ∀ a ∈ qMs ++ qNs, P.Sr (qd a.1 a.2) := by
  have h : (qMs ++ qNs).all (fun a => P.stChk 5 (scL (1/4) [1, a.1, a.2])) = true := by decide +kernel
  intro a ha
  exact P.Sr_chk (List.all_eq_true.mp h a ha) rfl
theorem gain_ok : ∀ g ∈ gains, g ≠ 0 ∧ P.Ht 3 (P.C g) ∧ P.Ht 3 (P.C (1 / g)) := by
  have h : gains.all (fun g => decide (g ≠ 0) && decide (g.num.natAbs ≤ 2 ^ 3) && decide (g.den ≤ 2 ^ 3)) = true := by decide +kernel
  intro g hg
  have := List.all_eq_true.mp h g hg
  simp only [Bool.and_eq_true, decide_eq_true_eq] at this
  exact ⟨this.1.1, P.Ht_C this.1.2 this.2, P.Ht_Cinv this.1.1 this.1.2 this.2⟩
theorem X_Sg : Sg 4 3 P.X := by
  have h : P.htOk 4 [0, 1] = true := by decide +kernel
  exact ⟨P.Ht_of h, Nat.le_trans (P.len_mk [0, 1]) (by decide)⟩
theorem len_X : P.X.len = 2 := by
  have : (1 : Rat) ≠ 0 := by grind
  exact P.len_eq (n := 1) (fun i hi => by show (P.mk' [0, 1]).c i = 0; rw [P.c_mk, cf_ge _ _ (by simp; omega)]) (by show (P.mk' [0, 1]).c 1 ≠ 0; rw [P.c_mk]; exact this)
theorem c0_X : P.X.c 0 = 0 := P.c_mk _ _
theorem c0_lin (x : Rat) : (lin x).c 0 = 1 := P.c_mk _ _
theorem c0_qd (a b : Rat) : (qd a b).c 0 = 1 := P.c_mk _ _
theorem c0_prod : ∀ l : List P, (∀ p ∈ l, p.c 0 = 1) → (prod l).c 0 = 1
  | [], _ => P.c_C0 1
  | p :: l, h => by
    show (p * prod l).c 0 = 1
    rw [P.c0_mul, h p (List.mem_cons_self ..), c0_prod l fun q hq => h q (List.mem_cons_of_mem _ hq)]; grind
theorem prod_app : ∀ l r : List P, prod (l ++ r) = prod l * prod r
  | [], r => by show prod r = 1 * prod r; grind
  | p :: l, r => by
    show p * prod (l ++ r) = p * prod l * prod r
    rw [prod_app l r]; grind
/-- the lengths of factors beyond 1, added up -/
theorem prod_len (s : P → Nat) : ∀ l : List P, (∀ p ∈ l, p.len ≤ s p + 1) → (prod l).len ≤ (l.map s).sum + 1
  | [], _ => P.len_C 1
  | p :: l, h => by
    have h1 := prod_len s l fun q hq => h q (List.mem_cons_of_mem _ hq)
    have h2 := h p (List.mem_cons_self ..)
    have h3 := P.len_mul_le p (prod l)
    show (p * prod l).len ≤ _
    rw [List.map_cons, List.sum_cons]
    omega

/-- a drawn machine -/
structure Drawn (n m : P) : Prop where
  n0 : n ≠ 0
  nc : n.c 0 = 0
  mc : m.c 0 = 1
  sn : Sg 23 7 n
  sm : Sg 12 5 m
  base : ∃ p w, P.Base n m p w ∧ Sg 530 4 p ∧ Sg 780 7 w
  srm : P.Sr m
theorem Drawn.mk' {L Z Q : List Rat} {j : Nat} {qN qM : List (Rat × Rat)} {g : Rat} (hL : (L ++ (Z ++ Q)).Perm menu12) (hZ : Z.length ≤ 2) (hQ : Q.length ≤ 2) (hj : 1 ≤ j) (hj2 : j ≤ 2) (hqN : ∀ a ∈ qN, a ∈ qNs) (hqM : ∀ a ∈ qM, a ∈ qMs) (hq : qN = [] ∨ qM = []) (lN : qN.length ≤ 1) (lM : qM.length ≤ 1) (hg : g ∈ gains) :
    Drawn (P.C g * prod (List.replicate j P.X ++ (Z.map lin ++ qds qN))) (prod (Q.map lin ++ qds qM)) := by
  have hnd : (L ++ (Z ++ Q)).Nodup := hL.nodup_iff.mpr (by decide +kernel)
  have hmem : ∀ x, x ∈ Z ∨ x ∈ Q → x ∈ menu12 := fun x hx => hL.mem_iff.mp (List.mem_append_right _ (List.mem_append.mpr hx))
  have hne : ∀ z ∈ Z, ∀ q ∈ Q, z ≠ q := by
    have := (List.nodup_append.mp (List.nodup_append.mp hnd).2.1).2.2
    intro z hz q hq e
    exact this z hz q hq e
  obtain ⟨g1, g2, g3⟩ := gain_ok g hg
  have mA : ∀ a ∈ List.replicate j P.X ++ (Z.map lin ++ qds qN), a = P.X ∨ (∃ z ∈ Z, a = lin z) ∨ (∃ q ∈ qN, a = qd q.1 q.2) := by
    intro a ha
    rcases List.mem_append.mp ha with h | h
    · exact .inl (List.eq_of_mem_replicate h)
    · rcases List.mem_append.mp h with h | h
      · obtain ⟨z, hz, rfl⟩ := List.mem_map.mp h
        exact .inr (.inl ⟨z, hz, rfl⟩)
      · obtain ⟨q, hq, rfl⟩ := List.mem_map.mp h
        exact .inr (.inr ⟨q, hq, rfl⟩)
  have mB : ∀ b ∈ Q.map lin ++ qds qM, (∃ q ∈ Q, b = lin q) ∨ (∃ q ∈ qM, b = qd q.1 q.2) := by
    intro a h
    rcases List.mem_append.mp h with h | h
    · obtain ⟨z, hz, rfl⟩ := List.mem_map.mp h
      exact .inl ⟨z, hz, rfl⟩
    · obtain ⟨q, hq, rfl⟩ := List.mem_map.mp h
      exact .inr ⟨q, hq, rfl⟩
  have sA : ∀ a ∈ List.replicate j P.X ++ (Z.map lin ++ qds qN), Sg 4 3 a := by
    intro a ha
    rcases mA a ha with rfl | ⟨z, hz, rfl⟩ | ⟨q, hq, rfl⟩
    · exact X_Sg
    · exact lin_Sg (hmem z (.inl hz))
    · exact qd_Sg q (List.mem_append_right _ (hqN q hq))
  have sB : ∀ b ∈ Q.map lin ++ qds qM, Sg 4 3 b := by
    intro b hb
    rcases mB b hb with ⟨z, hz, rfl⟩ | ⟨q, hq, rfl⟩
    · exact lin_Sg (hmem z (.inr hz))
    · exact qd_Sg q (List.mem_append_left _ (hqM q hq))
  have cB : (prod (Q.map lin ++ qds qM)).c 0 = 1 := c0_prod _ fun b hb => by
    rcases mB b hb with ⟨z, hz, rfl⟩ | ⟨q, hq, rfl⟩
    · exact c0_lin _
    · exact c0_qd _ _
  have eB : prod (Q.map lin ++ qds qM) = prod ((Q.map (fun q => ((lin q, 1) : P × Nat)) ++ qM.map (fun q : Rat × Rat => ((qd q.1 q.2, 2) : P × Nat))).map (·.1)) := by
    rw [List.map_append, List.map_map, List.map_map]; rfl
  have sumB : ((Q.map (fun q => ((lin q, 1) : P × Nat)) ++ qM.map (fun q : Rat × Rat => ((qd q.1 q.2, 2) : P × Nat))).map (·.2)).sum = Q.length + 2 * qM.length := by
    rw [List.map_append, List.map_map, List.map_map, List.sum_append]
    have e1 : (Q.map ((fun b : P × Nat => b.2) ∘ fun q => ((lin q, 1) : P × Nat))).sum = Q.length := by
      rw [show ((fun b : P × Nat => b.2) ∘ fun q => ((lin q, 1) : P × Nat)) = fun _ => 1 from rfl, List.map_const', List.sum_replicate_nat, Nat.mul_one]
    have e2 : (qM.map ((fun b : P × Nat => b.2) ∘ fun q : Rat × Rat => ((qd q.1 q.2, 2) : P × Nat))).sum = 2 * qM.length := by
      rw [show ((fun b : P × Nat => b.2) ∘ fun q : Rat × Rat => (qd q.1 q.2, 2)) = fun _ => 2 from rfl, List.map_const', List.sum_replicate_nat, Nat.mul_comm]
    omega
  have lenB' : (Q.map (fun q => ((lin q, 1) : P × Nat)) ++ qM.map (fun q : Rat × Rat => ((qd q.1 q.2, 2) : P × Nat))).length ≤ 3 := by
    rw [List.length_append, List.length_map, List.length_map]; omega
  have lin1 : ∀ a : P, (∀ q ∈ Q, BzOk a (lin q) 1 1) → (∀ q ∈ qM, BzOk a (qd q.1 q.2) 2 1) → ∃ e f, e * a + f * prod (Q.map lin ++ qds qM) = 1 ∧ Sg 63 4 e := by
    intro a h1 h2
    obtain ⟨e, f, b1, b2, _, _⟩ := P.bzA1 a (Q.map (fun q => ((lin q, 1) : P × Nat)) ++ qM.map (fun q : Rat × Rat => ((qd q.1 q.2, 2) : P × Nat))) (fun b hb => by
      rcases List.mem_append.mp hb with h | h
      · obtain ⟨q, hq', rfl⟩ := List.mem_map.mp h
        exact ⟨h1 q hq', ⟨(lin_Sg (hmem q (.inr hq'))).1, P.len_lin q⟩, Nat.le_refl _⟩
      · obtain ⟨q, hq', rfl⟩ := List.mem_map.mp h
        exact ⟨h2 q hq', ⟨(qd_Sg q (List.mem_append_left _ (hqM q hq'))).1, P.len_qd _ _⟩, (by show 1 ≤ 2; omega)⟩) lenB'
    rw [← eB] at b1
    refine ⟨e, f, b1, b2.up ?_ ?_⟩
    · have : (Q.map (fun q => ((lin q, 1) : P × Nat)) ++ qM.map (fun q : Rat × Rat => ((qd q.1 q.2, 2) : P × Nat))).length * (6 * (Q.map (fun q => ((lin q, 1) : P × Nat)) ++ qM.map (fun q : Rat × Rat => ((qd q.1 q.2, 2) : P × Nat))).length + 3) ≤ 3 * (6 * 3 + 3) := Nat.mul_le_mul lenB' (by omega)
      omega
    · rw [sumB]; omega
  have hz : ∀ a ∈ List.replicate j P.X ++ (Z.map lin ++ qds qN), ∃ e f, e * a + f * prod (Q.map lin ++ qds qM) = 1 ∧ Sg 63 4 e := by
    intro a ha
    rcases mA a ha with rfl | ⟨z, hz, rfl⟩ | ⟨q, hq', rfl⟩
    · exact lin1 P.X (fun p hp => bz_Xl p (hmem p (.inr hp))) fun p hp => bz_Xq p (hqM p hp)
    · exact lin1 (lin z) (fun p hp => bz_lin z (hmem z (.inl hz)) p (hmem p (.inr hp)) (hne z hz p hp)) fun p hp => bz_lq z (hmem z (.inl hz)) p (List.mem_append_left _ (hqM p hp))
    · have hM0 : qM = [] := by
        rcases hq with h | h
        · rw [h] at hq'; cases hq'
        · exact h
      subst hM0
      rw [show Q.map lin ++ qds [] = Q.map lin by show _ ++ [] = _; rw [List.append_nil]]
      obtain ⟨e, f, b1, b2, _, _⟩ := P.bzA2 (qd q.1 q.2) (Q.map lin) (fun b hb => by
        obtain ⟨p, hp, rfl⟩ := List.mem_map.mp hb
        exact ⟨(bz_lq p (hmem p (.inr hp)) q (List.mem_append_right _ (hqN q hq'))).symm, ⟨(lin_Sg (hmem p (.inr hp))).1, P.len_lin p⟩⟩) (by rw [List.length_map]; omega)
      rw [List.length_map] at b2
      refine ⟨e, f, b1, b2.up ?_ (by omega)⟩
      have : Q.length * (6 * Q.length + 3) ≤ 2 * (6 * 2 + 3) := Nat.mul_le_mul hQ (by omega)
      omega
  have lA : (List.replicate j P.X ++ (Z.map lin ++ qds qN)).length ≤ 5 := by
    simp only [List.length_append, List.length_replicate, List.length_map, qds]; omega
  have lB : (Q.map lin ++ qds qM).length ≤ 3 := by
    simp only [List.length_append, List.length_map, qds]; omega
  obtain ⟨p, w, hb, sp, sw⟩ := P.base_ex lA lB g1 g2 g3 sA sB hz (c0_ne cB)
  have hX : P.X ≠ 0 := by intro z; have := len_X; rw [z, P.len_zero] at this; omega
  have hAn : prod (List.replicate j P.X ++ (Z.map lin ++ qds qN)) ≠ 0 := by
    have : ∀ l : List P, (∀ a ∈ l, a ≠ 0) → prod l ≠ 0 := by
      intro l
      induction l with
      | nil => intro _; exact P.one_ne
      | cons a l ih => intro h; exact P.mul_ne (h a (List.mem_cons_self ..)) (ih fun b hb => h b (List.mem_cons_of_mem _ hb))
    refine this _ fun a ha => ?_
    rcases mA a ha with rfl | ⟨z, hz, rfl⟩ | ⟨q, hq, rfl⟩
    · exact hX
    · exact c0_ne (c0_lin z)
    · exact c0_ne (c0_qd _ _)
  have hC : P.C g ≠ 0 := by
    intro z
    have : (P.C g).c 0 = (0 : P).c 0 := by rw [z]
    rw [P.c_C0, P.c_zero] at this
    exact g1 this
  have lenA : (prod (List.replicate j P.X ++ (Z.map lin ++ qds qN))).len ≤ 2 * qN.length + Z.length + j + 1 := by
    have h1 : (prod (List.replicate j P.X)).len ≤ j + 1 := by
      have := prod_len (fun _ => 1) (List.replicate j P.X) (fun p hp => by rw [List.eq_of_mem_replicate hp, len_X]; omega)
      rw [List.map_replicate, List.sum_replicate_nat, Nat.mul_one] at this
      exact this
    have h2 : (prod (Z.map lin)).len ≤ Z.length + 1 := by
      have := prod_len (fun _ => 1) (Z.map lin) (fun p hp => by obtain ⟨z, _, rfl⟩ := List.mem_map.mp hp; exact P.len_lin z)
      rw [List.map_map, show (fun _ => 1) ∘ lin = (fun _ => 1) from rfl, List.map_const', List.sum_replicate_nat, Nat.mul_one] at this
      exact this
    have h3 : (prod (qds qN)).len ≤ 2 * qN.length + 1 := by
      have := prod_len (fun _ => 2) (qds qN) (fun p hp => by obtain ⟨z, _, rfl⟩ := List.mem_map.mp hp; exact P.len_qd _ _)
      rw [List.map_const', List.sum_replicate_nat] at this
      unfold qds at this ⊢
      rw [List.length_map] at this
      omega
    rw [prod_app, prod_app]
    have h4 := P.len_mul_le (prod (Z.map lin)) (prod (qds qN))
    have h5 := P.len_mul_le (prod (List.replicate j P.X)) (prod (Z.map lin) * prod (qds qN))
    omega
  have lenB : (prod (Q.map lin ++ qds qM)).len ≤ 2 * qM.length + Q.length + 1 := by
    have h2 : (prod (Q.map lin)).len ≤ Q.length + 1 := by
      have := prod_len (fun _ => 1) (Q.map lin) (fun p hp => by obtain ⟨z, _, rfl⟩ := List.mem_map.mp hp; exact P.len_lin z)
      rw [List.map_map, show (fun _ => 1) ∘ lin = (fun _ => 1) from rfl, List.map_const', List.sum_replicate_nat, Nat.mul_one] at this
      exact this
    have h3 : (prod (qds qM)).len ≤ 2 * qM.length + 1 := by
      have := prod_len (fun _ => 2) (qds qM) (fun p hp => by obtain ⟨z, _, rfl⟩ := List.mem_map.mp hp; exact P.len_qd _ _)
      rw [List.map_const', List.sum_replicate_nat] at this
      unfold qds at this ⊢
      rw [List.length_map] at this
      omega
    rw [prod_app]
    have h4 := P.len_mul_le (prod (Q.map lin)) (prod (qds qM))
    omega
  have htA := (P.prod_Sg _ sA).1
  have htB := (P.prod_Sg _ sB).1
  have hCA := P.len_mul_le (P.C g) (prod (List.replicate j P.X ++ (Z.map lin ++ qds qN)))
  have lC := P.len_C g
  have sn : Sg 23 7 (P.C g * prod (List.replicate j P.X ++ (Z.map lin ++ qds qN))) := ⟨P.Ht_up (P.Ht_mul g2 htA) (by omega), by omega⟩
  have sm : Sg 12 5 (prod (Q.map lin ++ qds qM)) := ⟨P.Ht_up htB (by omega), by omega⟩
  have hn0 := P.mul_ne hC hAn
  have hm0 := c0_ne cB
  have srB : P.Sr (prod (Q.map lin ++ qds qM)) := by
    have key : ∀ l : List P, (∀ b ∈ l, P.Sr b) → P.Sr (prod l) := by
      intro l
      induction l with
      | nil => intro _; exact P.Sr_of P.St_one
      | cons b l ih => intro h; exact P.Sr_mul (h b (List.mem_cons_self ..)) (ih fun c hc => h c (List.mem_cons_of_mem _ hc))
    refine key _ fun b hb => ?_
    rcases mB b hb with ⟨z, hz, rfl⟩ | ⟨q, hq, rfl⟩
    · exact sr_lin z (hmem z (.inr hz))
    · exact sr_qd q (List.mem_append_left _ (hqM q hq))
  refine ⟨hn0, ?_, cB, sn, sm, ⟨p, w, hb, ⟨sp.1, by have := hb.lt; have := sm.2; omega⟩, sw.1, ?_⟩, srB⟩
  · rw [P.c0_mul]
    obtain ⟨i, rfl⟩ : ∃ i, j = i + 1 := ⟨j - 1, by omega⟩
    rw [List.replicate_succ]
    show _ * (P.X * prod _).c 0 = 0
    rw [P.X_mul0]; grind
  · by_cases hw : w = 0
    · rw [hw, P.len_zero]; omega
    · have h1 := (P.len_mul hm0 hw).1
      have e : prod (Q.map lin ++ qds qM) * w = 1 - P.C g * prod (List.replicate j P.X ++ (Z.map lin ++ qds qN)) * p := by have := hb.eq; grind
      rw [e] at h1
      have h2 := P.len_sub 1 (P.C g * prod (List.replicate j P.X ++ (Z.map lin ++ qds qN)) * p)
      have h3 := P.len_mul_le (P.C g * prod (List.replicate j P.X ++ (Z.map lin ++ qds qN))) p
      have h4 := sn.2
      have h5 := hb.lt
      have h6 := P.len_one
      have h7 := P.len_pos hm0
      omega
end Dn
set_option Elab.async false
set_option linter.all false
set_option maxRecDepth 100000
/-! DnM15: machines drawn, walked. -/
namespace Dn
open PySem
open P (Sg lin qd prod BzOk)
theorem lin_l {x : Rat} (h : x ≠ 0) : (lin x).l = [1, -1 / x] := trim_id _ (.inr (by
  show -1 / x ≠ 0
  grind))
theorem law_root {x : Rat} (h0 : x ≠ 0) (hs : Sm x) : At 3 159 [da (enc x)] (encP (lin x)) := At.of rfl rfl rfl fun l k hl => by
  have t := law_div (-1) x Sm_mone hs h0 l k hl
  have e : encP (lin x) = .tuple [enc 1, enc (-1 / x)] := by show encR (lin x).l = _; rw [lin_l h0]; rfl
  rw [e]
  exact ⟨_, ss_rt (ws_ret (we_tup (wa_two rfl (we_call (wa_two (d := enc (-1)) rfl rfl) t))))⟩
theorem law_made (Z : List Rat) (hZ : ∀ z ∈ Z, z ∈ menu12) (hl : Z.length ≤ 20) : At 4 160 [da (.list (Z.map enc))] (encP (prod (Z.map lin))) := At.of rfl rfl rfl fun l k hk => by
  obtain ⟨env', h1, acc, s2, rfl, h3, h4⟩ := for_inv (k := k) (en := enc)
    (f := fun x env k => (bindP (.one 2) x env).bind fun en => denSs (Ph l) DnLib.G MW (.cons (.asg 1 (.call 155 (.cons (.var 1) (.cons (.call 159 (.cons (.var 2) .nil)) .nil)))) .nil) en k)
    (fun ys env => ∃ acc s2, env = [da (.list (Z.map enc)), da (encP acc), s2] ∧ acc * prod (ys.map lin) = prod (Z.map lin) ∧ (∀ y ∈ ys, y ∈ menu12) ∧ ys.length ≤ Z.length ∧ Sg (4 * (Z.length - ys.length)) (2 * (Z.length - ys.length) + 1) acc)
    (fun y ys env ⟨acc, s2, he, g1, g2, g3, g4⟩ => by
      subst he
      have hy := g2 y (List.mem_cons_self ..)
      simp only [List.length_cons] at g3 g4
      have t1 := law_root (menu_ne y hy).1 (menu_ne y hy).2.1 l k hk
      have t2 := law_times acc (lin y) (g4.ml (lin_Sg hy) (by omega) (by omega) (by omega)) l k hk
      refine ⟨[da (.list (Z.map enc)), da (encP (acc * lin y)), da (enc y)], ss_nx (ws_asg (we_call (wa_two rfl (we_call (wa_one rfl) t1)) t2) rfl) rfl, _, _, rfl, ?_, fun z hz => g2 z (List.mem_cons_of_mem _ hz), by omega, (g4.mul (lin_Sg hy)).up (by omega) (by omega)⟩
      rw [← g1]
      show _ = acc * (lin y * prod (ys.map lin))
      grind)
    Z [da (.list (Z.map enc)), da (encP 1), .un] ⟨1, .un, rfl, by grind, hZ, Nat.le_refl _, Sg.one _ _ (by omega)⟩
  rw [show acc = prod (Z.map lin) by rw [← h3]; show _ = acc * 1; grind] at h1
  exact ⟨_, ss_nx (ws_asg (env' := [da (.list (Z.map enc)), da (encP 1), .un]) unit_lit rfl) (ss_nx (ws_for rfl h1) (ss_rt (ws_ret rfl)))⟩

def popIn (i : Nat) : CSs := .cons (.popA i 1 (.callC 144 0 (.cons (.blt .len (.cons (.var 1) .nil)) .nil))) .nil
theorem pop_perm {L R : List Rat} {i : Nat} (hi : i < L.length) (h : (L ++ R).Perm menu12) : (L.eraseIdx i ++ (R ++ [cf L i])).Perm menu12 := by
  refine List.Perm.trans ?_ h
  rw [← List.append_assoc]
  refine List.perm_append_comm.trans ?_
  show (cf L i :: (L.eraseIdx i ++ R)).Perm _
  rw [← List.cons_append]
  exact (erase_perm L i hi).append_right R
theorem eraseIdx_map : ∀ (L : List Rat) (i : Nat), (L.map enc).eraseIdx i = (L.eraseIdx i).map enc
  | [], i => rfl
  | a :: L, 0 => rfl
  | a :: L, i + 1 => by rw [List.map_cons, List.eraseIdx_cons_succ, List.eraseIdx_cons_succ, List.map_cons, eraseIdx_map L i]
theorem rng_okN {i : Nat} (h : i < 1000000) : rngOk (i : Int) = true := rng_ok h
/-- one turn that takes a zero -/
theorem pop2 {l N : Nat} {k : KS} {L Z : List Rat} (hL : L ≠ []) (hL2 : L.length ≤ 12) (hZ : Z.length < 100) (hk : OkK N k) (hN : N ≤ 1000000) (hl : 1 ≤ l) {s3 s4 s5 s6 s7 s8 s9 s10 : Sl} : ∃ (i : Nat) (k' : KS), i < L.length ∧
    denSs (Ph l) DnLib.G MW (popIn 2) [.csk, ow L, ow Z, s3, s4, s5, s6, s7, s8, s9, s10] k = some (.nx [.csk, ow (L.eraseIdx i), ow (Z ++ [cf L i]), s3, s4, s5, s6, s7, s8, s9, s10] k') ∧ OkK (N + 1) k' := by
  have hp := List.length_pos_iff.mpr hL
  obtain ⟨i, k', h1, h2, h3⟩ := tap (l := l) (top := (L.length : Int)) (by omega) (by omega) hk hN hl
  refine ⟨i, k', by omega, ss_nx (ws_popA (a := i) (xs := L.map enc) (ys := Z.map enc) (y := enc (cf L i)) (en1 := [.csk, ow (L.eraseIdx i), ow Z, s3, s4, s5, s6, s7, s8, s9, s10]) (by decide) rfl (we_callC rfl (wa_one (we_blt (wa_one rfl) (len_lst L))) h1) (rng_okN (by omega)) ?_ (get_enc (by omega)) rfl (len_ok (by rw [List.length_map]; omega)) ?_ ?_) rfl, h3⟩
  · rw [List.length_map]; exact ixD_nat (by omega)
  · rw [eraseIdx_map]; rfl
  · rw [← List.map_singleton, ← List.map_append]; rfl
theorem pop3 {l N : Nat} {k : KS} {L Z : List Rat} (hL : L ≠ []) (hL2 : L.length ≤ 12) (hZ : Z.length < 100) (hk : OkK N k) (hN : N ≤ 1000000) (hl : 1 ≤ l) {s2 s4 s5 s6 s7 s8 s9 s10 : Sl} : ∃ (i : Nat) (k' : KS), i < L.length ∧
    denSs (Ph l) DnLib.G MW (popIn 3) [.csk, ow L, s2, ow Z, s4, s5, s6, s7, s8, s9, s10] k = some (.nx [.csk, ow (L.eraseIdx i), s2, ow (Z ++ [cf L i]), s4, s5, s6, s7, s8, s9, s10] k') ∧ OkK (N + 1) k' := by
  have hp := List.length_pos_iff.mpr hL
  obtain ⟨i, k', h1, h2, h3⟩ := tap (l := l) (top := (L.length : Int)) (by omega) (by omega) hk hN hl
  refine ⟨i, k', by omega, ss_nx (ws_popA (a := i) (xs := L.map enc) (ys := Z.map enc) (y := enc (cf L i)) (en1 := [.csk, ow (L.eraseIdx i), s2, ow Z, s4, s5, s6, s7, s8, s9, s10]) (by decide) rfl (we_callC rfl (wa_one (we_blt (wa_one rfl) (len_lst L))) h1) (rng_okN (by omega)) ?_ (get_enc (by omega)) rfl (len_ok (by rw [List.length_map]; omega)) ?_ ?_) rfl, h3⟩
  · rw [List.length_map]; exact ixD_nat (by omega)
  · rw [eraseIdx_map]; rfl
  · rw [← List.map_singleton, ← List.map_append]; rfl
def cZ : CE := .callC 145 0 (.cons (.lst (.cons (.int 1) (.cons (.int 0) (.cons (.int 1) (.cons (.int 2) .nil))))) .nil)
def cQ : CE := .callC 145 0 (.cons (.lst (.cons (.int 1) (.cons (.int 2) (.cons (.int 1) (.cons (.int 0) .nil))))) .nil)
theorem cnt_den {l N : Nat} {k : KS} (a : CA) (xs : List Nat) (hx : xs ≠ []) (hx2 : xs.length < 100) {env : DEnv} (h0 : env[0]? = some .csk) (ha : denA (Ph l) DnLib.G a false env k = some ([.list (xs.map fun i => .int ((i : Nat) : Int))], k)) (hk : OkK N k) (hN : N ≤ 1000000) (hl : 2 ≤ l) {m : Bool} :
    ∃ (c : Nat) (k' : KS), c ∈ xs ∧ den (Ph l) DnLib.G (.callC 145 0 a) m env k = some (.int (c : Int), k') ∧ OkK (N + 1) k' := by
  obtain ⟨x, k', h1, h2, h3⟩ := draw_of (l := l) (xs.map fun i => (.int ((i : Nat) : Int) : PyData)) (by simpa using hx) (by rw [List.length_map]; omega) hk hN hl
  obtain ⟨c, hc, rfl⟩ := List.mem_map.mp h1
  exact ⟨c, k', hc, we_callC h0 ha h2, h3⟩
theorem zeros_loop {l N : Nat} {k : KS} (hk : OkK N k) (hN : N ≤ 1000) (hl : 2 ≤ l) {s3 s4 s5 s6 s7 s8 s9 s10 : Sl} : ∃ (L Z : List Rat) (a4 : Sl) (k' : KS), denS (Ph l) DnLib.G MW (.for_ (.one 4) (.rng cZ) (popIn 2)) [.csk, ow menu12, ow [], s3, s4, s5, s6, s7, s8, s9, s10] k
      = some (.nx [.csk, ow L, ow Z, s3, a4, s5, s6, s7, s8, s9, s10] k') ∧ (L ++ Z).Perm menu12 ∧ Z.length ≤ 2 ∧ OkK (N + 3) k' := by
  obtain ⟨c, k1, hc, h1, h2⟩ := cnt_den (l := l) (m := true) (.cons (.lst (.cons (.int 1) (.cons (.int 0) (.cons (.int 1) (.cons (.int 2) .nil))))) .nil) [1, 0, 1, 2] (by decide) (by decide) (env := [.csk, ow menu12, ow [], s3, s4, s5, s6, s7, s8, s9, s10]) rfl rfl hk (by omega) hl
  have hc2 : c ≤ 2 := by
    have : ∀ c ∈ [1, 0, 1, 2], c ≤ 2 := by decide
    exact this c hc
  obtain ⟨env', k', e1, L, Z, a4, rfl, e2, e3, e4⟩ := for_rngK (N := c) (en := fun j => (.int ((j : Nat) : Int) : PyData))
    (f := fun x env k => (bindP (.one 4) x env).bind fun en => denSs (Ph l) DnLib.G MW (popIn 2) en k)
    (fun t env k => ∃ L Z s4, env = [.csk, ow L, ow Z, s3, s4, s5, s6, s7, s8, s9, s10] ∧ (L ++ Z).Perm menu12 ∧ Z.length = t ∧ OkK (N + 1 + t) k)
    (fun t env k ht ⟨L, Z, s4, he, g2, g3, g4⟩ => by
      subst he
      have hlen := g2.length_eq
      have h12 : menu12.length = 12 := rfl
      rw [List.length_append, h12] at hlen
      obtain ⟨i, k', hi, e1, e2⟩ := pop2 (s3 := s3) (s4 := da (.int (t : Int))) (s5 := s5) (s6 := s6) (s7 := s7) (s8 := s8) (s9 := s9) (s10 := s10) (show L ≠ [] by intro z; rw [z] at hlen; simp at hlen; omega) (by omega) (show Z.length < 100 by omega) g4 (by omega) (show 1 ≤ l by omega)
      exact ⟨_, k', e1, _, _, _, rfl, pop_perm hi g2, by rw [List.length_append, g3]; rfl, e2⟩)
    [.csk, ow menu12, ow [], s3, s4, s5, s6, s7, s8, s9, s10] k1 ⟨_, _, _, rfl, by rw [List.append_nil], rfl, h2⟩
  exact ⟨L, Z, a4, k', ws_for (wi_rng (n := c) h1 (by omega)) e1, e2, by omega, e4.up (by omega)⟩
theorem poles_loop {l N : Nat} {k : KS} {L Z : List Rat} (hp : (L ++ Z).Perm menu12) (hZ : Z.length ≤ 2) (hk : OkK N k) (hN : N ≤ 1000) (hl : 2 ≤ l) {s4 s5 s6 s7 s8 s9 s10 : Sl} : ∃ (L' Q : List Rat) (a4 : Sl) (k' : KS), denS (Ph l) DnLib.G MW (.for_ (.one 4) (.rng cQ) (popIn 3)) [.csk, ow L, ow Z, ow [], s4, s5, s6, s7, s8, s9, s10] k
      = some (.nx [.csk, ow L', ow Z, ow Q, a4, s5, s6, s7, s8, s9, s10] k') ∧ (L' ++ (Z ++ Q)).Perm menu12 ∧ Q.length ≤ 2 ∧ OkK (N + 3) k' := by
  obtain ⟨c, k1, hc, h1, h2⟩ := cnt_den (l := l) (m := true) (.cons (.lst (.cons (.int 1) (.cons (.int 2) (.cons (.int 1) (.cons (.int 0) .nil))))) .nil) [1, 2, 1, 0] (by decide) (by decide) (env := [.csk, ow L, ow Z, ow [], s4, s5, s6, s7, s8, s9, s10]) rfl rfl hk (by omega) hl
  have hc2 : c ≤ 2 := by
    have : ∀ c ∈ [1, 2, 1, 0], c ≤ 2 := by decide
    exact this c hc
  obtain ⟨env', k', e1, L', Q, a4, rfl, e2, e3, e4⟩ := for_rngK (N := c) (en := fun j => (.int ((j : Nat) : Int) : PyData))
    (f := fun x env k => (bindP (.one 4) x env).bind fun en => denSs (Ph l) DnLib.G MW (popIn 3) en k)
    (fun t env k => ∃ L Q s4, env = [.csk, ow L, ow Z, ow Q, s4, s5, s6, s7, s8, s9, s10] ∧ (L ++ (Z ++ Q)).Perm menu12 ∧ Q.length = t ∧ OkK (N + 1 + t) k)
    (fun t env k ht ⟨L, Q, s4, he, g2, g3, g4⟩ => by
      subst he
      have hlen := g2.length_eq
      have h12 : menu12.length = 12 := rfl
      rw [List.length_append, List.length_append, h12] at hlen
      obtain ⟨i, k', hi, e1, e2⟩ := pop3 (s2 := ow Z) (s4 := da (.int (t : Int))) (s5 := s5) (s6 := s6) (s7 := s7) (s8 := s8) (s9 := s9) (s10 := s10) (show L ≠ [] by intro z; rw [z] at hlen; simp at hlen; omega) (by omega) (show Q.length < 100 by omega) g4 (by omega) (show 1 ≤ l by omega)
      refine ⟨_, k', e1, _, _, _, rfl, ?_, by rw [List.length_append, g3]; rfl, e2⟩
      have := pop_perm hi g2
      rwa [List.append_assoc] at this)
    [.csk, ow L, ow Z, ow [], s4, s5, s6, s7, s8, s9, s10] k1 ⟨_, _, _, rfl, by rw [List.append_nil]; exact hp, rfl, h2⟩
  exact ⟨L', Q, a4, k', ws_for (wi_rng (n := c) h1 (by omega)) e1, e2, by omega, e4.up (by omega)⟩
def gA : CA := (.cons (.callC 145 0 (.cons (.lst (.cons (.int 1) (.cons (.int 2) (.cons (.bin .sub (.int 0) (.int 1)) (.cons (.int 3) (.cons (.bin .sub (.int 0) (.int 3)) .nil)))))) .nil)) (.cons (.bin .add (.int 1) (.callC 144 0 (.cons (.int 2) .nil))) .nil))
def ups : List Int := [1, 2, -1, 3, -3]
theorem gain_mem : ∀ a ∈ ups, ∀ j, j < 2 → Rat.divInt a ((1 + j : Nat) : Int) ∈ gains := by
  have h : ups.all (fun a => (List.range 2).all fun j => decide (Rat.divInt a ((1 + j : Nat) : Int) ∈ gains)) = true := by decide +kernel
  intro a ha j hj
  have := List.all_eq_true.mp (List.all_eq_true.mp h a ha) j (List.mem_range.mpr hj)
  simpa using this
theorem gain_draw {l N : Nat} {k : KS} {env : DEnv} (h0 : env[0]? = some .csk) (hk : OkK N k) (hN : N ≤ 1000) (hl : 2 ≤ l) {m : Bool} : ∃ (g : Rat) (k' : KS), g ∈ gains ∧ den (Ph l) DnLib.G (.call 146 gA) m env k = some (enc g, k') ∧ OkK (N + 2) k' := by
  obtain ⟨x, k1, h1, h2, h3⟩ := draw_of (l := l) (ups.map fun i => (.int i : PyData)) (by decide) (by decide) hk (by omega) hl
  obtain ⟨a, ha, rfl⟩ := List.mem_map.mp h1
  obtain ⟨j, k2, g1, g2, g3⟩ := tap (l := l) (top := 2) (by omega) (by omega) h3 (by omega) (by omega)
  have hj : j < 2 := by omega
  have t := law_f a ((1 + j : Nat) : Int) (by omega) (by
    have : (((1 + j : Nat) : Int)).natAbs = 1 + j := by omega
    rw [this]
    have := (Nat.log2_lt (show 1 + j ≠ 0 by omega)).mpr (show 1 + j < 2 ^ 2 by omega)
    omega) l k2 (by omega)
  refine ⟨_, k2, gain_mem a ha j hj, we_call (wa_two (we_callC h0 (wa_one (k1 := k) (d := .list (ups.map fun i => (.int i : PyData))) (by kernel_rfl)) h2) (we_bin (d := .int ((1 + j : Nat) : Int)) rfl (we_callC h0 (wa_one rfl) g1) ?_)) t, g3⟩
  simp only [binD]
  congr 2
end Dn
set_option Elab.async false
set_option linter.all false
set_option maxRecDepth 100000
/-! DnM16: the drawn machine, its hidden part. -/
namespace Dn
open PySem
open P (Sg lin qd prod BzOk)
theorem Sg_prodLin (Z : List Rat) (hZ : ∀ z ∈ Z, z ∈ menu12) : Sg (4 * Z.length) (2 * Z.length + 1) (prod (Z.map lin)) := by
  have := P.prod_Sg (Z.map lin) fun p hp => by obtain ⟨z, hz, rfl⟩ := List.mem_map.mp hp; exact lin_Sg (hZ z hz)
  rwa [List.length_map] at this
theorem late_ok : ∀ p ∈ lates, ∃ j, 1 ≤ j ∧ j ≤ 2 ∧ p = prod (List.replicate j P.X) := by
  intro p hp
  simp only [lates, List.mem_cons, List.mem_nil_iff, or_false] at hp
  rcases hp with rfl | rfl | rfl
  · exact ⟨1, by omega, by omega, by show _ = P.X * 1; grind⟩
  · exact ⟨1, by omega, by omega, by show _ = P.X * 1; grind⟩
  · exact ⟨2, by omega, by omega, by show _ = P.X * (P.X * 1); grind⟩
def cLate : CE := .callC 145 0 (.cons (.lst (.cons (.tup (.cons (.tup (.cons (.int 0) (.cons (.int 1) .nil))) (.cons (.tup (.cons (.int 1) (.cons (.int 1) .nil))) .nil))) (.cons (.tup (.cons (.tup (.cons (.int 0) (.cons (.int 1) .nil))) (.cons (.tup (.cons (.int 1) (.cons (.int 1) .nil))) .nil))) (.cons (.tup (.cons (.tup (.cons (.int 0) (.cons (.int 1) .nil))) (.cons (.tup (.cons (.int 0) (.cons (.int 1) .nil))) (.cons (.tup (.cons (.int 1) (.cons (.int 1) .nil))) .nil)))) .nil)))) .nil)
def cPairs : CE := (.lst (.cons (.tup (.cons (.tup (.cons (.int 1) (.cons (.int 1) .nil))) (.cons (.tup (.cons (.int 1) (.cons (.int 1) .nil))) (.cons (.tup (.cons (.int 4) (.cons (.int 1) .nil))) .nil)))) (.cons (.tup (.cons (.tup (.cons (.int 1) (.cons (.int 1) .nil))) (.cons (.tup (.cons (.int 1) (.cons (.int 2) .nil))) (.cons (.tup (.cons (.int 1) (.cons (.int 4) .nil))) .nil)))) (.cons (.tup (.cons (.tup (.cons (.int 1) (.cons (.int 1) .nil))) (.cons (.tup (.cons (.int 0) (.cons (.int 1) .nil))) (.cons (.tup (.cons (.int 1) (.cons (.int 1) .nil))) .nil)))) .nil))))
def cOthers : CE := (.lst (.cons (.tup (.cons (.tup (.cons (.int 1) (.cons (.int 1) .nil))) (.cons (.tup (.cons (.bin .sub (.int 0) (.int 1)) (.cons (.int 1) .nil))) (.cons (.tup (.cons (.int 2) (.cons (.int 1) .nil))) .nil)))) (.cons (.tup (.cons (.tup (.cons (.int 1) (.cons (.int 1) .nil))) (.cons (.tup (.cons (.int 0) (.cons (.int 1) .nil))) (.cons (.tup (.cons (.int 1) (.cons (.int 9) .nil))) .nil)))) .nil)))
theorem pairs_den {Φ : Phi} {G : Glo} {m : Bool} {env : DEnv} {k : KS} : den Φ G cPairs m env k = some (.list ((qds qMs).map encP), k) := by kernel_rfl
theorem others_den {Φ : Phi} {G : Glo} {m : Bool} {env : DEnv} {k : KS} : den Φ G cOthers m env k = some (.list ((qds qNs).map encP), k) := by kernel_rfl
theorem lates_den {Φ : Phi} {G : Glo} {m : Bool} {env : DEnv} {k : KS} : denA Φ G (.cons (.lst (.cons (.tup (.cons (.tup (.cons (.int 0) (.cons (.int 1) .nil))) (.cons (.tup (.cons (.int 1) (.cons (.int 1) .nil))) .nil))) (.cons (.tup (.cons (.tup (.cons (.int 0) (.cons (.int 1) .nil))) (.cons (.tup (.cons (.int 1) (.cons (.int 1) .nil))) .nil))) (.cons (.tup (.cons (.tup (.cons (.int 0) (.cons (.int 1) .nil))) (.cons (.tup (.cons (.int 0) (.cons (.int 1) .nil))) (.cons (.tup (.cons (.int 1) (.cons (.int 1) .nil))) .nil)))) .nil)))) .nil) m env k = some ([.list (lates.map encP)], k) := by kernel_rfl
/-- the part behind the zeros -/
def dmB : CSs := .cons (.asg 5 (.call 146 gA)) (.cons (.asg 6 cLate) (.cons (.par [7, 8, 9] (.cons (.call 153 (.cons (.call 155 (.cons (.var 6) (.cons (.call 160 (.cons (.var 2) .nil)) .nil))) (.cons (.var 5) .nil))) (.cons (.call 160 (.cons (.var 3) .nil)) (.cons (.callC 144 0 (.cons (.int 6) .nil)) .nil)))) (.cons (.asg 10 cPairs)
  (.cons (.iff (.cmp .eq (.var 9) (.int 0)) (.cons (.asg 8 (.call 155 (.cons (.var 8) (.cons (.callC 145 0 (.cons (.var 10) .nil)) .nil)))) .nil) .nil) (.cons (.iff (.cmp .eq (.var 9) (.int 1)) (.cons (.asg 7 (.call 155 (.cons (.var 7) (.cons (.callC 145 0 (.cons cOthers .nil)) .nil)))) .nil) .nil) (.cons (.ret (.tup (.cons (.var 7) (.cons (.var 8) (.cons (.var 2) (.cons (.var 3) .nil)))))) .nil))))))
theorem dm_B {l N : Nat} {k : KS} {L Z Q : List Rat} (hp : (L ++ (Z ++ Q)).Perm menu12) (hZ : Z.length ≤ 2) (hQ : Q.length ≤ 2) (hk : OkK N k) (hN : N ≤ 500) (hl : 5 ≤ l) {a4 : Sl} : ∃ (n m : P) (k' : KS),
    denSs (Ph l) DnLib.G MW dmB [.csk, ow L, ow Z, ow Q, a4, .un, .un, .un, .un, .un, .un] k = some (.rt (.tuple [encP n, encP m, .list (Z.map enc), .list (Q.map enc)]) k' false) ∧ Drawn n m ∧ OkK (N + 5) k' := by
  have hmem : ∀ x, x ∈ Z ∨ x ∈ Q → x ∈ menu12 := fun x hx => hp.mem_iff.mp (List.mem_append_right _ (List.mem_append.mpr hx))
  obtain ⟨g, k1, hg, e1, o1⟩ := gain_draw (env := [.csk, ow L, ow Z, ow Q, a4, .un, .un, .un, .un, .un, .un]) (m := false) rfl hk (by omega) (show 2 ≤ l by omega)
  obtain ⟨x, k2, hx, e2, o2⟩ := draw_of (l := l) (lates.map encP) (by decide) (by decide) o1 (by omega) (by omega)
  obtain ⟨late, hlate, rfl⟩ := List.mem_map.mp hx
  obtain ⟨j, hj1, hj2, rfl⟩ := late_ok late hlate
  obtain ⟨way, k3, e3, hw, o3⟩ := tap (l := l) (top := 6) (by omega) (by omega) o2 (by omega) (by omega)
  obtain ⟨g1, g2, g3⟩ := gain_ok g hg
  have sZ := Sg_prodLin Z fun z hz => hmem z (.inl hz)
  have sQ := Sg_prodLin Q fun z hz => hmem z (.inr hz)
  have sX : Sg 8 5 (prod (List.replicate j P.X)) := by
    have := P.prod_Sg (List.replicate j P.X) fun p hp => by rw [List.eq_of_mem_replicate hp]; exact X_Sg
    rw [List.length_replicate] at this
    exact this.up (by omega) (by omega)
  have tZ := law_made Z (fun z hz => hmem z (.inl hz)) (by omega) l k2 (by omega)
  have tQ := law_made Q (fun z hz => hmem z (.inr hz)) (by omega) l k2 (by omega)
  have tm := law_times (prod (List.replicate j P.X)) (prod (Z.map lin)) (sX.ml sZ (by omega) (by omega) (by omega)) l k2 (by omega)
  have sXZ : Sg 16 9 (prod (List.replicate j P.X) * prod (Z.map lin)) := (sX.mul sZ).up (by omega) (by omega)
  have tb := law_by (prod (List.replicate j P.X) * prod (Z.map lin)) g (Sm_C g2 (by omega)) sXZ.1 (by omega) (by have := sXZ.2; omega) l k2 (by omega)
  have sn : Sg 19 9 (P.C g * (prod (List.replicate j P.X) * prod (Z.map lin))) := ⟨P.Ht_up (P.Ht_mul g2 sXZ.1) (by omega), by
    have := P.len_mul_le (P.C g) (prod (List.replicate j P.X) * prod (Z.map lin))
    have := P.len_C g
    have := sXZ.2
    omega⟩
  have p1 : ∀ (R : CSs) (Z' : Option Res), denSs (Ph l) DnLib.G MW R [.csk, ow L, da (.list (Z.map enc)), da (.list (Q.map enc)), a4, da (enc g), da (encP (prod (List.replicate j P.X))), da (encP (P.C g * (prod (List.replicate j P.X) * prod (Z.map lin)))), da (encP (prod (Q.map lin))), da (.int (way : Int)), .dat true (.list ((qds qMs).map encP))] k3 = Z' →
      denSs (Ph l) DnLib.G MW (.cons (.asg 5 (.call 146 gA)) (.cons (.asg 6 cLate) (.cons (.par [7, 8, 9] (.cons (.call 153 (.cons (.call 155 (.cons (.var 6) (.cons (.call 160 (.cons (.var 2) .nil)) .nil))) (.cons (.var 5) .nil))) (.cons (.call 160 (.cons (.var 3) .nil)) (.cons (.callC 144 0 (.cons (.int 6) .nil)) .nil)))) (.cons (.asg 10 cPairs) R)))) [.csk, ow L, ow Z, ow Q, a4, .un, .un, .un, .un, .un, .un] k = Z' := fun R Z' h =>
    ss_nx (ws_asg (env' := [.csk, ow L, ow Z, ow Q, a4, da (enc g), .un, .un, .un, .un, .un]) e1 rfl)
    (ss_nx (ws_asg (env' := [.csk, ow L, ow Z, ow Q, a4, da (enc g), da (encP (prod (List.replicate j P.X))), .un, .un, .un, .un]) (we_callC rfl lates_den e2) rfl)
    (ss_nx (ws_par (env' := [.csk, ow L, da (.list (Z.map enc)), da (.list (Q.map enc)), a4, da (enc g), da (encP (prod (List.replicate j P.X))), da (encP (P.C g * (prod (List.replicate j P.X) * prod (Z.map lin)))), da (encP (prod (Q.map lin))), da (.int (way : Int)), .un])
      (wo_cons (we_call (wa_two (we_call (wa_two rfl (we_call (wa_one rfl) tZ)) tm) rfl) tb) (wo_two (we_call (wa_one rfl) tQ) (we_callC rfl (wa_one rfl) e3))) rfl)
    (ss_nx (ws_asg pairs_den rfl) h)))
  have en : ∀ r : P, P.C g * (prod (List.replicate j P.X) * prod (Z.map lin)) * r = P.C g * (prod (List.replicate j P.X) * (prod (Z.map lin) * r)) := fun r => by grind
  by_cases w0 : way = 0
  · subst w0
    obtain ⟨y, k4, hy, e4, o4⟩ := draw_of (l := l) ((qds qMs).map encP) (by decide) (by decide) o3 (by omega) (by omega)
    obtain ⟨q, hq, rfl⟩ := List.mem_map.mp hy
    obtain ⟨a, ha, rfl⟩ := List.mem_map.mp hq
    have t := law_times (prod (Q.map lin)) (qd a.1 a.2) (sQ.ml (qd_Sg a (List.mem_append_left _ ha)) (by omega) (by omega) (by omega)) l k4 (by omega)
    have hD := Drawn.mk' (qN := []) (qM := [a]) hp hZ hQ hj1 hj2 (by intro a h; cases h) (by intro b hb; rcases List.mem_singleton.mp hb with rfl; exact ha) (.inl rfl) (by simp) (by simp) hg
    rw [prod_app, prod_app, prod_app] at hD
    have ep : prod (qds [a]) = qd a.1 a.2 := by show qd a.1 a.2 * 1 = _; grind
    have ep0 : prod (qds []) = 1 := rfl
    rw [ep, ep0, show prod (Z.map lin) * 1 = prod (Z.map lin) by grind] at hD
    refine ⟨_, _, k4, p1 _ _ (ss_nx (ws_ifT (we_cmp (d := true) rfl rfl (cmp_eqI _ _)) (ss_nx (ws_asg (env' := [.csk, ow L, da (.list (Z.map enc)), da (.list (Q.map enc)), a4, da (enc g), da (encP (prod (List.replicate j P.X))), da (encP (P.C g * (prod (List.replicate j P.X) * prod (Z.map lin)))), da (encP (prod (Q.map lin) * qd a.1 a.2)), da (.int ((0 : Nat) : Int)), da (.list ((qds qMs).map encP))]) (we_call (wa_two rfl (we_callC rfl (wa_one rfl) e4)) t) rfl) rfl))
      (ss_nx (ws_ifF (we_cmp (d := false) rfl rfl (cmp_eqI _ _)) rfl) (ss_rt (ws_ret (we_tup (wa_cons rfl (wa_cons rfl (wa_two rfl rfl)))))))), hD, o4.up (by omega)⟩
  · by_cases w1 : way = 1
    · subst w1
      obtain ⟨y, k4, hy, e4, o4⟩ := draw_of (l := l) ((qds qNs).map encP) (by decide) (by decide) o3 (by omega) (by omega)
      obtain ⟨q, hq, rfl⟩ := List.mem_map.mp hy
      obtain ⟨a, ha, rfl⟩ := List.mem_map.mp hq
      have t := law_times (P.C g * (prod (List.replicate j P.X) * prod (Z.map lin))) (qd a.1 a.2) (sn.ml (qd_Sg a (List.mem_append_right _ ha)) (by omega) (by omega) (by omega)) l k4 (by omega)
      have hD := Drawn.mk' (qN := [a]) (qM := []) hp hZ hQ hj1 hj2 (by intro b hb; rcases List.mem_singleton.mp hb with rfl; exact ha) (by intro a h; cases h) (.inr rfl) (by simp) (by simp) hg
      rw [prod_app, prod_app, prod_app] at hD
      have ep : prod (qds [a]) = qd a.1 a.2 := by show qd a.1 a.2 * 1 = _; grind
      have ep0 : prod (qds []) = 1 := rfl
      rw [ep, ep0, show prod (Q.map lin) * 1 = prod (Q.map lin) by grind, ← en] at hD
      refine ⟨_, _, k4, p1 _ _ (ss_nx (ws_ifF (we_cmp (d := false) rfl rfl (cmp_eqI _ _)) rfl)
        (ss_nx (ws_ifT (we_cmp (d := true) rfl rfl (cmp_eqI _ _)) (ss_nx (ws_asg (env' := [.csk, ow L, da (.list (Z.map enc)), da (.list (Q.map enc)), a4, da (enc g), da (encP (prod (List.replicate j P.X))), da (encP (P.C g * (prod (List.replicate j P.X) * prod (Z.map lin)) * qd a.1 a.2)), da (encP (prod (Q.map lin))), da (.int ((1 : Nat) : Int)), .dat true (.list ((qds qMs).map encP))]) (we_call (wa_two rfl (we_callC rfl (wa_one others_den) e4)) t) rfl) rfl)) (ss_rt (ws_ret (we_tup (wa_cons rfl (wa_cons rfl (wa_two rfl rfl)))))))), hD, o4.up (by omega)⟩
    · have hD := Drawn.mk' (qN := []) (qM := []) hp hZ hQ hj1 hj2 (by intro a h; cases h) (by intro a h; cases h) (.inl rfl) (by simp) (by simp) hg
      rw [prod_app, prod_app, prod_app] at hD
      have ep0 : prod (qds []) = 1 := rfl
      rw [ep0, show prod (Q.map lin) * 1 = prod (Q.map lin) by grind, show prod (Z.map lin) * 1 = prod (Z.map lin) by grind] at hD
      refine ⟨_, _, k3, p1 _ _ (ss_nx (ws_ifF (we_cmp (d := false) rfl rfl (by rw [cmp_eqI, decide_eq_false (by omega)])) rfl)
        (ss_nx (ws_ifF (we_cmp (d := false) rfl rfl (by rw [cmp_eqI, decide_eq_false (by omega)])) rfl) (ss_rt (ws_ret (we_tup (wa_cons rfl (wa_cons rfl (wa_two rfl rfl)))))))), hD, o3.up (by omega)⟩
def c9 : CE := (.lst (.cons (.tup (.cons (.int 1) (.cons (.int 2) .nil))) (.cons (.tup (.cons (.int 2) (.cons (.int 1) .nil))) (.cons (.tup (.cons (.bin .sub (.int 0) (.int 1)) (.cons (.int 2) .nil))) (.cons (.tup (.cons (.int 1) (.cons (.int 3) .nil))) (.cons (.tup (.cons (.int 2) (.cons (.int 3) .nil))) (.cons (.tup (.cons (.int 3) (.cons (.int 1) .nil))) (.cons (.tup (.cons (.int 3) (.cons (.int 4) .nil))) (.cons (.tup (.cons (.bin .sub (.int 0) (.int 2)) (.cons (.int 1) .nil))) (.cons (.tup (.cons (.int 1) (.cons (.int 1) .nil))) .nil))))))))))
def c3 : CE := (.bin .add (.var 1) (.lst (.cons (.tup (.cons (.bin .sub (.int 0) (.int 3)) (.cons (.int 2) .nil))) (.cons (.tup (.cons (.bin .sub (.int 0) (.int 1)) (.cons (.int 3) .nil))) (.cons (.tup (.cons (.bin .sub (.int 0) (.int 1)) (.cons (.int 1) .nil))) .nil)))))
theorem c9_den {Φ : Phi} {G : Glo} {m : Bool} {env : DEnv} {k : KS} : den Φ G c9 m env k = some (.list (menu9.map enc), k) := by kernel_rfl
theorem c3_den {Φ : Phi} {G : Glo} {m : Bool} {s0 : Sl} {r : DEnv} {k : KS} : den Φ G c3 m (s0 :: ow menu9 :: r) k = some (.list (menu12.map enc), k) := by kernel_rfl
def dmA : CSs := .cons (.par [1, 2, 3] (.cons c9 (.cons (.lst .nil) (.cons (.lst .nil) .nil)))) (.cons (.asg 1 c3) (.cons (.for_ (.one 4) (.rng cZ) (popIn 2)) (.cons (.for_ (.one 4) (.rng cQ) (popIn 3)) dmB)))
theorem dm_code : DnLib.c167 = dmA := by kernel_rfl
theorem draw_machine {l N : Nat} {k : KS} (hk : OkK N k) (hN : N ≤ 400) (hl : 6 ≤ l) : ∃ (n m : P) (Z Q : List Rat) (k' : KS),
    Ph l 167 [.csk] k = some (.tuple [encP n, encP m, .list (Z.map enc), .list (Q.map enc)], k') ∧ Drawn n m ∧ OkK (N + 11) k' := by
  obtain ⟨l', rfl⟩ : ∃ l', l = l' + 1 := ⟨l - 1, by omega⟩
  obtain ⟨L, Z, a4, k1, e1, p1, hZ, o1⟩ := zeros_loop (l := l') (s3 := ow []) (s4 := .un) (s5 := .un) (s6 := .un) (s7 := .un) (s8 := .un) (s9 := .un) (s10 := .un) hk (by omega) (by omega)
  obtain ⟨L', Q, b4, k2, e2, p2, hQ, o2⟩ := poles_loop (l := l') (s4 := a4) (s5 := .un) (s6 := .un) (s7 := .un) (s8 := .un) (s9 := .un) (s10 := .un) p1 hZ o1 (by omega) (by omega)
  obtain ⟨n, m, k3, e3, hD, o3⟩ := dm_B (l := l') (a4 := b4) p2 hZ hQ o2 (by omega) (by omega)
  refine ⟨n, m, Z, Q, k3, Ck.of (f := ⟨11, 1, DnLib.c167⟩) (b := false) rfl rfl rfl ?_, hD, o3.up (by omega)⟩
  rw [dm_code]
  exact ss_nx (ws_par (env' := [.csk, ow menu9, ow [], ow [], .un, .un, .un, .un, .un, .un, .un]) (wo_cons c9_den (wo_two rfl rfl)) rfl)
    (ss_nx (ws_asg (env' := [.csk, ow menu12, ow [], ow [], .un, .un, .un, .un, .un, .un, .un]) c3_den rfl)
    (ss_nx e1 (ss_nx e2 e3)))
/-! ### hidden parts -/
def parts : List P := [1, 1, P.mk' [1, 1/2], P.mk' [1, -1/5], P.mk' [1, 0, 1/4]]
def cParts : CE := (.lst (.cons (.tup (.cons (.tup (.cons (.int 1) (.cons (.int 1) .nil))) .nil)) (.cons (.tup (.cons (.tup (.cons (.int 1) (.cons (.int 1) .nil))) .nil)) (.cons (.tup (.cons (.tup (.cons (.int 1) (.cons (.int 1) .nil))) (.cons (.tup (.cons (.int 1) (.cons (.int 2) .nil))) .nil))) (.cons (.tup (.cons (.tup (.cons (.int 1) (.cons (.int 1) .nil))) (.cons (.tup (.cons (.bin .sub (.int 0) (.int 1)) (.cons (.int 5) .nil))) .nil))) (.cons (.tup (.cons (.tup (.cons (.int 1) (.cons (.int 1) .nil))) (.cons (.tup (.cons (.int 0) (.cons (.int 1) .nil))) (.cons (.tup (.cons (.int 1) (.cons (.int 4) .nil))) .nil)))) .nil))))))
theorem parts_den {Φ : Phi} {G : Glo} {m : Bool} {env : DEnv} {k : KS} : den Φ G cParts m env k = some (.list (parts.map encP), k) := by kernel_rfl
/-- a steady hidden part -/
structure Hid (h : P) : Prop where
  c0 : h.c 0 = 1
  sg : Sg 3 3 h
  st : At 15 35 [da (encP h)] (.bool true)
theorem steady_k (f : List Rat) (h : ∀ l k, Ph (l + 15) 35 [da (encP (P.mk' f))] k = some (.bool true, k)) : At 15 35 [da (encP (P.mk' f))] (.bool true) := fun l k hl => by
  obtain ⟨l', rfl⟩ : ∃ l', l = l' + 15 := ⟨l - 15, by omega⟩
  exact h l' k
theorem parts_ok : ∀ h ∈ parts, Hid h := by
  intro h hh
  simp only [parts, List.mem_cons, List.mem_nil_iff, or_false] at hh
  have h1 : Hid 1 := ⟨P.c_C0 1, Sg.one _ _ (by omega), Mach.steady_one⟩
  rcases hh with rfl | rfl | rfl | rfl | rfl
  · exact h1
  · exact h1
  · exact ⟨P.c_mk _ _, ⟨P.Ht_of (by decide +kernel), Nat.le_trans (P.len_mk _) (by decide)⟩, steady_k _ fun l k => by kernel_rfl⟩
  · exact ⟨P.c_mk _ _, ⟨P.Ht_of (by decide +kernel), Nat.le_trans (P.len_mk _) (by decide)⟩, steady_k _ fun l k => by kernel_rfl⟩
  · exact ⟨P.c_mk _ _, ⟨P.Ht_of (by decide +kernel), Nat.le_trans (P.len_mk _) (by decide)⟩, steady_k _ fun l k => by kernel_rfl⟩
theorem draw_hidden {l N : Nat} {k : KS} {n m : P} (hD : Drawn n m) (hk : OkK N k) (hN : N ≤ 400) (hl : 5 ≤ l) : ∃ (h : P) (k' : KS), Ph l 296 [.csk, da (encP n), da (encP m)] k = some (pr (n * h) (m * h), k') ∧ Hid h ∧ OkK (N + 1) k' := by
  obtain ⟨l', rfl⟩ : ∃ l', l = l' + 1 := ⟨l - 1, by omega⟩
  obtain ⟨x, k1, hx, e1, o1⟩ := draw_of (l := l') (parts.map encP) (by decide) (by decide) hk (by omega) (by omega)
  obtain ⟨h, hh, rfl⟩ := List.mem_map.mp hx
  have H := parts_ok h hh
  have t1 := law_times n h (hD.sn.ml H.sg (by omega) (by omega) (by omega)) l' k1 (by omega)
  have t2 := law_times m h (hD.sm.ml H.sg (by omega) (by omega) (by omega)) l' k1 (by omega)
  exact ⟨h, k1, Ck.of (b := false) rfl rfl rfl (ss_nx (ws_asg (env' := [.csk, da (encP n), da (encP m), da (encP h)]) (we_callC rfl (wa_one parts_den) e1) rfl) (ss_rt (ws_ret (we_tup (wa_two (we_call (wa_two rfl rfl) t1) (we_call (wa_two rfl rfl) t2)))))), H, o1⟩
/-- the drawn machine, as the package's functions want it -/
theorem Drawn.mach {n m h : P} (hD : Drawn n m) (H : Hid h) : ∃ p w, Mach n m h p w ∧ EuOk n m ∧ EuOk p w ∧ Sg 530 4 p ∧ Sg 780 7 w := by
  obtain ⟨p, w, hb, sp, sw⟩ := hD.base
  have hn := hD.n0
  have hm := c0_ne hD.mc
  have hh := c0_ne H.c0
  have snh : Sg 26 9 (n * h) := (hD.sn.mul H.sg).up (by omega) (by omega)
  have smh : Sg 26 9 (m * h) := (hD.sm.mul H.sg).up (by omega) (by omega)
  refine ⟨p, w, ⟨hn, hD.nc, hD.mc, H.c0, hb, hD.sn.up (by omega) (by omega), hD.sm.up (by omega) (by omega), H.sg.up (by omega) (by omega), sp.up (by omega) (by omega), sw.up (by omega) (by omega), ?_, H.st⟩, ?_, ?_, sp, sw⟩
  · exact EuOk_of snh.1 smh.1 (.inl (P.mul_ne hn hh)) snh.2 smh.2 (by omega) (by decide)
  · exact EuOk_of (a := 26) (L := 9) (P.Ht_up hD.sn.1 (by omega)) (P.Ht_up hD.sm.1 (by omega)) (.inl hn) (by have := hD.sn.2; omega) (by have := hD.sm.2; omega) (by omega) (by decide)
  · have hw : w ≠ 0 := by
      intro z
      have e := hb.eq
      rw [z] at e
      have : (m * 0 + n * p).c 0 = (1 : P).c 0 := by rw [e]
      rw [show m * 0 + n * p = n * p by grind, P.c0_mul, hD.nc] at this
      have e1 : (1 : P).c 0 = 1 := P.c_C0 1
      rw [e1] at this
      exact absurd this (by grind)
    exact EuOk_of (a := 1120) (L := 7) (P.Ht_up sp.1 (by omega)) (P.Ht_up sw.1 (by omega)) (.inr hw) (by have := sp.2; omega) sw.2 (by omega) (by decide)
end Dn
set_option Elab.async false
set_option linter.all false
set_option maxRecDepth 100000
/-! DnM17: the texts of results. -/
namespace Dn
open PySem
open P (Sg)
/-- can be shown: at most c signs, at most dp deep -/
structure Rp (c dp : Nat) (d : PyData) : Prop where
  sh : d.showable = true
  nd : d.hasDict = false
  dp : d.depth ≤ dp
  ln : d.shown.length ≤ c
  ok : PyData.strOk d.shown = true
theorem Rp.up {c dp c' dp' : Nat} {d : PyData} (h : Rp c dp d) (hc : c ≤ c') (hd : dp ≤ dp') : Rp c' dp' d := ⟨h.sh, h.nd, Nat.le_trans h.dp hd, Nat.le_trans h.ln hc, h.ok⟩
theorem ok_of (s : String) : PyData.strOk (Str.ofString s) = true := by
  unfold PyData.strOk
  rw [Str.ofString_eq_toList]
  simp only [List.all_toArray, List.all_map, List.all_eq_true]
  intro c _
  simp only [Function.comp, decide_eq_true_eq]
  have := c.valid
  have e : c.toNat = c.val.toNat := rfl
  rw [e]
  rcases this with h | h
  · omega
  · have := h.2; omega
theorem ok_app {a b : Str} (ha : PyData.strOk a = true) (hb : PyData.strOk b = true) : PyData.strOk (a ++ b) = true := by
  unfold PyData.strOk at *
  show (a.cps ++ b.cps).all _ = true
  rw [Array.all_append, ha, hb]; rfl
theorem Rp_int {i : Int} (h : i.natAbs.log2 < 1920) : Rp 1921 0 (.int i) where
  sh := by show decide _ = true; exact decide_eq_true h
  nd := rfl
  dp := Nat.le_refl _
  ln := PyProof.Rows.int_text_len_1921 h
  ok := ok_of _
theorem Rp_none : Rp 4 0 .none := ⟨rfl, rfl, Nat.le_refl _, by decide, ok_of _⟩
theorem allP {c dp : Nat} : ∀ {ds : List PyData}, (∀ d ∈ ds, Rp c dp d) → PyData.showableAll ds = true ∧ PyData.hasDictAll ds = false ∧ PyData.depthAll ds ≤ dp ∧ piled (PyData.shownAll ds) ≤ (c + 2) * ds.length ∧ (∀ t ∈ PyData.shownAll ds, PyData.strOk t = true) ∧ (PyData.shownAll ds).length = ds.length
  | [], _ => ⟨rfl, rfl, by simp [PyData.depthAll], Nat.le_refl _, (fun t h => by cases h), rfl⟩
  | d :: ds, h => by
    obtain ⟨h1, h2, h3, h4, h5, h6⟩ := allP fun e he => h e (List.mem_cons_of_mem _ he)
    have hd := h d (List.mem_cons_self ..)
    refine ⟨?_, ?_, ?_, ?_, ?_, ?_⟩
    · simp only [PyData.showableAll, hd.sh, h1, Bool.and_self]
    · simp only [PyData.hasDictAll, hd.nd, h2, Bool.or_self]
    · simp only [PyData.depthAll]; have := hd.dp; omega
    · simp only [PyData.shownAll]
      rw [piled_cons, List.length_cons, Nat.mul_succ]
      have := hd.ln
      omega
    · intro t ht
      simp only [PyData.shownAll, List.mem_cons] at ht
      rcases ht with rfl | ht
      · exact hd.ok
      · exact h5 t ht
    · simp only [PyData.shownAll, List.length_cons, h6]
theorem len_strApp (a b : Str) : (a ++ b).length = a.length + b.length := strLen_append a b
theorem ok_join : ∀ {ts : List Str}, (∀ t ∈ ts, PyData.strOk t = true) → PyData.strOk (Str.join ", " ts) = true
  | [], _ => by show PyData.strOk Str.empty = true; decide +kernel
  | [x], h => h x (List.mem_cons_self ..)
  | x :: y :: r, h => by
    show PyData.strOk (x ++ ", " ++ Str.join ", " (y :: r)) = true
    exact ok_app (ok_app (h x (List.mem_cons_self ..)) (ok_of _)) (ok_join fun t ht => h t (List.mem_cons_of_mem _ ht))
theorem Rp_tup {c dp : Nat} {ds : List PyData} (h : ∀ d ∈ ds, Rp c dp d) : Rp ((c + 2) * ds.length + 3) (dp + 1) (.tuple ds) := by
  obtain ⟨h1, h2, h3, h4, h5, h6⟩ := allP h
  refine ⟨by simpa only [PyData.showable] using h1, by simpa only [PyData.hasDict] using h2, by simp only [PyData.depth]; omega, ?_, ?_⟩
  · show (tupleText (PyData.shownAll ds)).length ≤ _
    unfold tupleText
    rw [len_strApp, len_strApp]
    have e1 : ((("(" : String) : Str)).length = 1 := rfl
    have e3 : (((if (PyData.shownAll ds).length == 1 then ",)" else ")" : String) : Str)).length ≤ 2 := by split <;> decide
    have e2 : (Str.join ", " (PyData.shownAll ds)).length ≤ piled (PyData.shownAll ds) := by
      by_cases hz : PyData.shownAll ds = []
      · rw [hz]; exact Nat.le_refl _
      · have := join_length_add _ hz; omega
    rw [e1]; omega
  · show PyData.strOk (tupleText (PyData.shownAll ds)) = true
    unfold tupleText
    exact ok_app (ok_app (ok_of _) (ok_join h5)) (ok_of _)
theorem ok_textFrom : ∀ (ts : List Str) (k : Nat) (acc : Str), PyData.strOk acc = true → (∀ t ∈ ts, PyData.strOk t = true) → PyData.strOk (textFrom k acc ts) = true
  | [], _, _, h, _ => h
  | t :: ts, k, acc, h, ht => ok_textFrom ts (k + 1) _ (ok_app (ok_app h (ok_of _)) (ht t (List.mem_cons_self ..))) fun u hu => ht u (List.mem_cons_of_mem _ hu)
theorem listText_len : ∀ ts : List Str, (listText ts).length ≤ piled ts + 2
  | [] => by decide +kernel
  | t :: r => by
    have h := textFrom_length_pos r 1 (("[" : Str) ++ (if (0 : Nat) > 0 then ", " else "" : String) ++ t) (Nat.succ_pos 0)
    have e : ((("[" : Str) ++ (if (0 : Nat) > 0 then ", " else "" : String) ++ t)).length = 1 + t.length := by
      rw [len_strApp, len_strApp]; rfl
    have hX : (listText (t :: r)).length = (textFrom 0 "[" (t :: r)).length + 1 := by
      show (textFrom 0 "[" (t :: r) ++ "]").length = _
      rw [len_strApp]; rfl
    have hY : (textFrom 0 "[" (t :: r)).length = (textFrom 1 (("[" : Str) ++ (if (0 : Nat) > 0 then ", " else "" : String) ++ t) r).length := rfl
    rw [hX, hY, h, e, piled_cons]; omega
theorem Rp_lst {c dp : Nat} {ds : List PyData} (h : ∀ d ∈ ds, Rp c dp d) : Rp ((c + 2) * ds.length + 3) (dp + 1) (.list ds) := by
  obtain ⟨h1, h2, h3, h4, h5, h6⟩ := allP h
  refine ⟨by simpa only [PyData.showable] using h1, by simpa only [PyData.hasDict] using h2, by simp only [PyData.depth]; omega, ?_, ?_⟩
  · show (listText (PyData.shownAll ds)).length ≤ _
    have := listText_len (PyData.shownAll ds)
    omega
  · show PyData.strOk (listText (PyData.shownAll ds)) = true
    unfold listText
    exact ok_app (ok_textFrom _ _ _ (ok_of _) h5) (ok_of _)
theorem Rp_num {n : Nat} (h : n ≤ 2 ^ 1900) : n.log2 < 1920 := by
  by_cases h0 : n = 0
  · subst h0; decide
  · have : n.log2 < 1901 := (Nat.log2_lt h0).mpr (by rw [Nat.pow_succ]; have := Nat.two_pow_pos 1900; omega)
    omega
theorem Rp_enc {x : Rat} (h1 : x.num.natAbs ≤ 2 ^ 1900) (h2 : x.den ≤ 2 ^ 1900) : Rp 3849 1 (enc x) :=
  Rp_tup (ds := [.int x.num, .int x.den]) (c := 1921) (dp := 0) fun d hd => by
    rcases List.mem_cons.mp hd with rfl | hd
    · exact Rp_int (Rp_num h1)
    · rcases List.mem_cons.mp hd with rfl | hd
      · exact Rp_int (by rw [Int.natAbs_natCast]; exact Rp_num h2)
      · cases hd
/-- rows that can be shown: at most 30 numbers -/
theorem Rp_row {b L : Nat} {p : P} (h : Sg b L p) (hb : b ≤ 1900) (hL : L ≤ 30) : Rp 120000 2 (encP p) := by
  have hp : ∀ n : Nat, n ≤ 2 ^ b → n ≤ 2 ^ 1900 := fun n hn => Nat.le_trans hn (Nat.pow_le_pow_right (by omega) hb)
  have := Rp_tup (ds := p.l.map enc) (c := 3849) (dp := 1) fun d hd => by
    obtain ⟨x, hx, rfl⟩ := List.mem_map.mp hd
    obtain ⟨i, hi, rfl⟩ := cf_mem hx
    have := P.Ht_num h.1 i
    exact Rp_enc (hp _ this.1) (hp _ this.2)
  refine this.up ?_ (Nat.le_refl _)
  rw [List.length_map]
  have h2 : p.l.length ≤ 30 := by have := h.2; unfold P.len at this; omega
  have : (3849 + 2) * p.l.length ≤ (3849 + 2) * 30 := Nat.mul_le_mul_left _ h2
  omega
theorem Rp_two {c dp : Nat} {a b : PyData} (ha : Rp c dp a) (hb : Rp c dp b) : Rp (2 * c + 7) (dp + 1) (.tuple [a, b]) :=
  (Rp_tup (ds := [a, b]) (c := c) (dp := dp) fun d hd => by
    rcases List.mem_cons.mp hd with rfl | hd
    · exact ha
    · rcases List.mem_cons.mp hd with rfl | hd
      · exact hb
      · cases hd).up (by simp only [List.length_cons, List.length_nil]; omega) (Nat.le_refl _)
theorem Rp_list2 {c dp : Nat} {a b : PyData} (ha : Rp c dp a) (hb : Rp c dp b) : Rp (2 * c + 7) (dp + 1) (.list [a, b]) :=
  (Rp_lst (ds := [a, b]) (c := c) (dp := dp) fun d hd => by
    rcases List.mem_cons.mp hd with rfl | hd
    · exact ha
    · rcases List.mem_cons.mp hd with rfl | hd
      · exact hb
      · cases hd).up (by simp only [List.length_cons, List.length_nil]; omega) (Nat.le_refl _)
theorem Rp_list3 {c dp : Nat} {a b e : PyData} (ha : Rp c dp a) (hb : Rp c dp b) (he : Rp c dp e) : Rp (3 * c + 9) (dp + 1) (.list [a, b, e]) :=
  (Rp_lst (ds := [a, b, e]) (c := c) (dp := dp) fun d hd => by
    rcases List.mem_cons.mp hd with rfl | hd
    · exact ha
    · rcases List.mem_cons.mp hd with rfl | hd
      · exact hb
      · rcases List.mem_cons.mp hd with rfl | hd
        · exact he
        · cases hd).up (by simp only [List.length_cons, List.length_nil]; omega) (Nat.le_refl _)
theorem Rp.repr {c dp : Nat} {d : PyData} (h : Rp c dp d) (hc : c ≤ 16000000) (hd : dp ≤ 60) : bltD .repr [d] = some (.str d.shown) := by
  show (if (d.showable && !d.hasDict && decide (d.depth ≤ 60) && decide (d.shown.length ≤ 16000000)) = true then some (PyData.str d.shown) else none) = _
  rw [h.sh, h.nd, decide_eq_true (show d.depth ≤ 60 from Nat.le_trans h.dp hd), decide_eq_true (show d.shown.length ≤ 16000000 from Nat.le_trans h.ln hc)]
  rfl
theorem shaped_str {s : Str} (h : PyData.strOk s = true) : SeqAt.shaped (.str s) = true := by
  refine Bool.and_eq_true_iff.mpr ⟨?_, rfl⟩
  show PyData.canLay0 _ = true
  simpa only [PyData.canLay0] using h
theorem eqv_str (s : Str) : PyData.eqv (.str s) (.str s) = true := by simp [PyData.eqv]
section
variable {Φ : Phi} {G : Glo}
/-- two texts of one thing are not unlike -/
theorem we_reprNe {a b : CE} {m : Bool} {env : DEnv} {k k1 k2 : KS} {d : PyData} {c dp : Nat} (h : Rp c dp d) (hc : c ≤ 16000000) (hd : dp ≤ 60) (ha : den Φ G a true env k = some (d, k1)) (hb : den Φ G b true env k1 = some (d, k2)) :
    den Φ G (.cmp .ne (.blt .repr (.cons a .nil)) (.blt .repr (.cons b .nil))) m env k = some (.bool false, k2) := by
  refine we_cmp (we_blt (wa_one ha) (h.repr hc hd)) (we_blt (wa_one hb) (h.repr hc hd)) ?_
  simp only [cmpD, shaped_str h.ok, Bool.and_self, if_true, eqv_str, Bool.not_true]
theorem we_reprEq {a b : CE} {m : Bool} {env : DEnv} {k k1 k2 : KS} {d : PyData} {c dp : Nat} (h : Rp c dp d) (hc : c ≤ 16000000) (hd : dp ≤ 60) (ha : den Φ G a true env k = some (d, k1)) (hb : den Φ G b true env k1 = some (d, k2)) :
    den Φ G (.cmp .eq (.blt .repr (.cons a .nil)) (.blt .repr (.cons b .nil))) m env k = some (.bool true, k2) := by
  refine we_cmp (we_blt (wa_one ha) (h.repr hc hd)) (we_blt (wa_one hb) (h.repr hc hd)) ?_
  simp only [cmpD, shaped_str h.ok, Bool.and_self, if_true, eqv_str]
end
end Dn
set_option Elab.async false
set_option linter.all false
set_option maxRecDepth 100000
/-! DnM18: the cask made; what a law's body calls. -/
namespace Dn
open PySem
open P (Sg)
section
variable {Φ : Phi} {G : Glo} {n : Nat}
theorem ws_cask {i f s : Nat} {a : CA} {env env' : DEnv} {k k1 k2 : KS} {ns : List Int} {ds : List PyData} {r : PyData} (hs : (freeze env (leakA a false))[s]? = some (.scr ns)) (ha : denA Φ G a false (freeze env (leakA a false)) k = some (ds, k1))
    (hc : (freeze env (leakA a false)).all (fun s => match s with | .csk => false | _ => true) = true) (h : Φ f (.scr ns :: ds.map (Sl.dat false)) k1 = some (r, k2)) (he : envSet (freeze env (leakA a false)) i .csk = some env') : denS Φ G n (.cask i f s a) env k = some (.nx env' k2) := by
  simp only [denS, hs, ha, Option.bind_some, h, he, Option.map_some]
  exact if_pos hc
theorem we_sg {s : Nat} {e : CE} {m : Bool} {env : DEnv} {k k1 : KS} {ns : List Int} {i v : Int} (hs : env[s]? = some (.scr ns)) (he : den Φ G e true env k = some (.int i, k1)) (hv : scrAt ns i = some v) : den Φ G (.sg s e) m env k = some (.int v, k1) := by
  simp only [den, hs, he, Option.bind_some, hv, Option.map_some]
end
def mkFor : CSs := (.cons (.asg 3 (.bin .mod (.blt .int (.cons (.bin .add (.bin .add (.bin .mul (.var 3) (.int 58013)) (.bin .mod (.blt .int (.cons (.var 4) .nil)) (.int 2147483579))) (.int 23)) .nil)) (.int 2147483647))) .nil)
theorem mk_in {l : Nat} {k : KS} {ns : List Int} {s1 s2 s5 : Sl} {mixed c : Int} (h0 : 0 ≤ mixed) (h1 : mixed < 2147483647) : ∃ v : Int, 0 ≤ v ∧ v < 2147483647 ∧
    denSs (Ph l) DnLib.G MW mkFor [.scr ns, s1, s2, da (.int mixed), da (.int c), s5] k = some (.nx [.scr ns, s1, s2, da (.int v), da (.int c), s5] k) := by
  have c1 := Int.emod_nonneg c (show (2147483579 : Int) ≠ 0 by omega)
  have c2 := Int.emod_lt_of_pos c (show (0 : Int) < 2147483579 by omega)
  refine ⟨(mixed * 58013 + c % 2147483579 + 23) % 2147483647, Int.emod_nonneg _ (by omega), Int.emod_lt_of_pos _ (by omega), ss_nx (ws_asg (we_bin (x := .int (mixed * 58013 + c % 2147483579 + 23)) (we_blt (wa_one (we_bin (we_bin (we_bin rfl rfl (small_mul (i := mixed) (j := 58013) (a := 31) (b := 16) (by omega) (by decide) (by omega) (by omega))) (we_bin (x := .int c) (we_blt (wa_one rfl) rfl) rfl (fmod_pos (by omega))) rfl) rfl rfl)) rfl) rfl (fmod_pos (by omega))) rfl) rfl⟩
theorem mk_for {l : Nat} {k : KS} {ns : List Int} {s1 s2 s5 : Sl} : ∀ (ys : List Int) (mixed : Int) (s4 : Sl), 0 ≤ mixed → mixed < 2147483647 → ∃ (v : Int) (a4 : Sl), 0 ≤ v ∧ v < 2147483647 ∧
    forD (fun x env k => (bindP (.one 4) x env).bind fun en => denSs (Ph l) DnLib.G MW mkFor en k) (ys.map PyData.int) [.scr ns, s1, s2, da (.int mixed), s4, s5] k = some (.nx [.scr ns, s1, s2, da (.int v), a4, s5] k)
  | [], mixed, s4, h0, h1 => ⟨mixed, s4, h0, h1, rfl⟩
  | y :: ys, mixed, s4, h0, h1 => by
    obtain ⟨v, v0, v1, e⟩ := mk_in (l := l) (k := k) (ns := ns) (s1 := s1) (s2 := s2) (s5 := s5) (c := y) h0 h1
    obtain ⟨u, a4, u0, u1, e2⟩ := mk_for ys v (da (.int y)) v0 v1
    refine ⟨u, a4, u0, u1, ?_⟩
    rw [List.map_cons, forD]
    show (denSs (Ph l) DnLib.G MW mkFor [.scr ns, s1, s2, da (.int mixed), da (.int y), s5] k).bind _ = _
    rw [e]
    exact e2
theorem scr_at {ns : List Int} {i : Nat} (h : i < ns.length) : scrAt ns (i : Int) = some ns[i] := by
  unfold scrAt
  rw [if_pos (by omega), if_pos (by omega), Int.toNat_natCast]
  exact List.getElem?_eq_getElem h
def mkA : CE := (.ite (.cmp .lt (.var 1) (.sl 0)) (.blt .int (.cons (.sg 0 (.var 1)) .nil)) (.bin .add (.bin .mul (.int 41) (.var 1)) (.int 11)))
theorem mk_own {l : Nat} {k : KS} (ns : List Int) (turn : Nat) (ht : turn < 1000) {r : DEnv} {m : Bool} : ∃ own : Int, den (Ph l) DnLib.G mkA m (.scr ns :: da (.int (turn : Int)) :: r) k = some (.int own, k) := by
  by_cases h : turn < ns.length
  · refine ⟨ns[turn], we_iteT (we_cmp (d := true) rfl rfl (by rw [lt_nat, decide_eq_true h])) (we_blt (wa_one (we_sg rfl rfl (scr_at h))) rfl)⟩
  · exact ⟨41 * (turn : Int) + 11, we_iteF (we_cmp (d := false) rfl rfl (by rw [lt_nat, decide_eq_false h])) (we_bin (we_bin rfl rfl (small_mul (i := 41) (j := (turn : Int)) (a := 6) (b := 10) (by decide) (by omega) (by omega) (by omega))) rfl rfl)⟩
theorem pow1016 : binD .pow (.int 10) (.int 16) = some (.int 10000000000000000) := by kernel_rfl
theorem mk_cask {l : Nat} (ns : List Int) (turn : Nat) (ht : turn < 1000) : ∃ k' : KS, runMk (Ph l) DnLib.G MW ⟨6, 2, DnLib.c143⟩ [.scr ns, da (.int (turn : Int))] (0, 0, 0) = some (.none, k') ∧ OkK 0 k' := by
  obtain ⟨own, e0⟩ := mk_own (l := l) (k := (0, 0, 0)) (m := false) ns turn ht (r := [.un, .un, .un, .un])
  obtain ⟨v, a4, v0, v1, e1⟩ := mk_for (l := l) (k := (0, 0, 0)) (ns := ns) (s1 := da (.int (turn : Int))) (s2 := da (.int own)) (s5 := .un) (ns.take (sIxD ns.length 9)) (91009 + 4001 * (turn : Int)) .un (by omega) (by omega)
  have c1 := Int.emod_nonneg own (show (2147483579 : Int) ≠ 0 by omega)
  have c2 := Int.emod_lt_of_pos own (show (0 : Int) < 2147483579 by omega)
  generalize hs : (v * 37 + own % 2147483579 * 30013) % 2147483647 = s
  have hs1 : 0 ≤ s := by rw [← hs]; exact Int.emod_nonneg _ (by omega)
  have hs2 : s < 2147483647 := by rw [← hs]; exact Int.emod_lt_of_pos _ (by omega)
  have ef : ∃ a : Int, 0 ≤ a ∧ den (Ph l) DnLib.G (.ite (.or (.cmp .lt (.var 2) (.int 0)) (.cmp .ge (.var 2) (.bin .pow (.int 10) (.int 16)))) (.blt .abs (.cons (.var 2) .nil)) (.int 0)) false [.scr ns, da (.int (turn : Int)), da (.int own), da (.int v), a4, da (.int s)] (0, 0, 0) = some (.int a, (0, 0, 0)) := by
    have hab : bltD .abs [.int own] = some (.int (if own < 0 then -own else own)) := rfl
    have hann : (0 : Int) ≤ (if own < 0 then -own else own) := by split <;> omega
    by_cases h1 : own < 0
    · exact ⟨_, hann, we_iteT (we_orT (we_cmp (d := true) rfl rfl (by show some (decide _) = _; rw [decide_eq_true h1]))) (we_blt (wa_one rfl) hab)⟩
    · by_cases h2 : (10000000000000000 : Int) ≤ own
      · exact ⟨_, hann, we_iteT (we_orF (we_cmp (d := false) rfl rfl (by show some (decide _) = _; rw [decide_eq_false h1])) (we_cmp (d := true) rfl (we_bin rfl rfl pow1016) (by show some (decide _) = _; rw [decide_eq_true h2]))) (we_blt (wa_one rfl) hab)⟩
      · exact ⟨0, by omega, we_iteF (we_orF (we_cmp (d := false) rfl rfl (by show some (decide _) = _; rw [decide_eq_false h1])) (we_cmp (d := false) rfl (we_bin rfl rfl pow1016) (by show some (decide _) = _; rw [decide_eq_false h2]))) rfl⟩
  obtain ⟨a, ha, ef⟩ := ef
  refine ⟨(a, s, 0), ?_, ha, hs1, hs2, by simp only; omega, by simp only; omega⟩
  have e9 : denSs (Ph l) DnLib.G MW DnLib.c143 [.scr ns, da (.int (turn : Int)), .un, .un, .un, .un] (0, 0, 0) = some (.rt (.list [.int a, .int s, .int 0]) (0, 0, 0) true) := by
    exact ss_nx (ws_asg (env' := [.scr ns, da (.int (turn : Int)), da (.int own), .un, .un, .un]) e0 rfl)
      (ss_nx (ws_asg (env' := [.scr ns, da (.int (turn : Int)), da (.int own), da (.int (91009 + 4001 * (turn : Int))), .un, .un]) (we_bin rfl (we_bin rfl rfl (small_mul (i := 4001) (j := (turn : Int)) (a := 12) (b := 10) (by decide) (by omega) (by omega) (by omega))) rfl) rfl)
      (ss_nx (ws_for rfl e1)
      (ss_nx (ws_asg (env' := [.scr ns, da (.int (turn : Int)), da (.int own), da (.int v), a4, da (.int s)]) (we_bin (x := .int (v * 37 + own % 2147483579 * 30013)) (we_blt (wa_one (we_bin (we_bin rfl rfl (small_mul (i := v) (j := 37) (a := 31) (b := 6) (by omega) (by decide) (by omega) (by omega))) (we_bin (we_bin (x := .int own) (we_blt (wa_one rfl) rfl) rfl (fmod_pos (by omega))) rfl (small_mul (i := own % 2147483579) (j := 30013) (a := 31) (b := 15) (by omega) (by decide) (by omega) (by omega))) rfl)) rfl) rfl (by rw [fmod_pos (by omega), hs])) rfl)
      (ss_rt (ws_ret (we_lst (wa_cons ef (wa_two rfl rfl))))))))
  unfold runMk
  refine (if_pos rfl).trans ?_
  show (denSs (Ph l) DnLib.G MW DnLib.c143 [Sl.scr ns, da (.int (turn : Int)), Sl.un, Sl.un, Sl.un, Sl.un] (0, 0, 0)).bind _ = _
  rw [e9]
  rfl
/-- what a law's body calls -/
def PL : Phi := fun id => if id = 9999 then (fun as k => if as.all plainSl then runMk (phi 10000 DnLib.G DnLib.T 40) DnLib.G 10000 ⟨6, 2, DnLib.c143⟩ as k else none) else phi 10000 DnLib.G DnLib.T (40 + 1) id
theorem PL_eq {id : Nat} (h : id ≠ 9999) : PL id = Ph 41 id := by unfold PL; rw [if_neg h]
theorem At.L {n id : Nat} {as : List Sl} {r : PyData} {k : KS} (h : At n id as r) (hn : n ≤ 41) (hi : id ≠ 9999) : PL id as k = some (r, k) := by
  rw [PL_eq hi]; exact h 41 k hn
theorem PL_mk (ns : List Int) (turn : Nat) (ht : turn < 1000) : ∃ k' : KS, PL 9999 [.scr ns, da (.int (turn : Int))] (0, 0, 0) = some (.none, k') ∧ OkK 0 k' := by
  obtain ⟨k', h1, h2⟩ := mk_cask (l := 40) ns turn ht
  refine ⟨k', ?_, h2⟩
  unfold PL
  rw [if_pos rfl]
  show (if _ then runMk (Ph 40) DnLib.G MW ⟨6, 2, DnLib.c143⟩ [.scr ns, da (.int (turn : Int))] (0, 0, 0) else none) = _
  exact (if_pos rfl).trans h1
end Dn
set_option Elab.async false
set_option linter.all false
set_option maxRecDepth 100000
/-! DnM19: law k85 in plain Lean (printed by gen85.py). -/
namespace Dn
open PySem
open P (Sg)
def wilds : List P := [P.mk' [1, -2], P.mk' [1, 1], P.mk' [1, 3, 1/2]]
def cWilds : CE := (.lst (.cons (.tup (.cons (.tup (.cons (.int 1) (.cons (.int 1) .nil))) (.cons (.tup (.cons (.bin .sub (.int 0) (.int 2)) (.cons (.int 1) .nil))) .nil))) (.cons (.tup (.cons (.tup (.cons (.int 1) (.cons (.int 1) .nil))) (.cons (.tup (.cons (.int 1) (.cons (.int 1) .nil))) .nil))) (.cons (.tup (.cons (.tup (.cons (.int 1) (.cons (.int 1) .nil))) (.cons (.tup (.cons (.int 3) (.cons (.int 1) .nil))) (.cons (.tup (.cons (.int 1) (.cons (.int 2) .nil))) .nil)))) .nil))))
theorem wilds_den {Φ : Phi} {G : Glo} {m : Bool} {env : DEnv} {k : KS} : den Φ G cWilds m env k = some (.list (wilds.map encP), k) := by kernel_rfl
theorem wilds_ok : ∀ q ∈ wilds, q.c 0 = 1 ∧ Sg 4 3 q := by
  intro q hq
  simp only [wilds, List.mem_cons, List.mem_nil_iff, or_false] at hq
  rcases hq with rfl | rfl | rfl
  · exact ⟨P.c_mk _ _, P.Ht_of (by decide +kernel), Nat.le_trans (P.len_mk _) (by decide)⟩
  · exact ⟨P.c_mk _ _, P.Ht_of (by decide +kernel), Nat.le_trans (P.len_mk _) (by decide)⟩
  · exact ⟨P.c_mk _ _, P.Ht_of (by decide +kernel), Nat.le_trans (P.len_mk _) (by decide)⟩
theorem more_ok {x y : Rat} (hx1 : x.num.natAbs ≤ 8) (hx2 : x.den ≤ 8) (hy1 : y.num.natAbs ≤ 8) (hy2 : y.den ≤ 8) (hy : y ≠ 0) : encP (P.mk' [x, y]) = .tuple [enc x, enc y] ∧ Sg 7 2 (P.mk' [x, y]) := by
  refine ⟨?_, ?_, P.len_mk _⟩
  · show encR (trim [x, y]) = _
    rw [trim_id [x, y] (.inr hy)]; rfl
  · rw [P.mk_cons, P.mk_cons, P.mk_nil]
    have h1 : P.Ht 3 (P.C x) := P.Ht_C hx1 hx2
    have h2 : P.Ht 3 (P.C y) := P.Ht_C hy1 hy2
    have h3 : P.Ht 0 P.X := P.Ht_of (f := [0, 1]) (by decide +kernel)
    rw [show P.C x + P.X * (P.C y + P.X * 0) = P.C x + P.X * P.C y by grind]
    exact P.Ht_up (P.Ht_add h1 (P.Ht_mul h3 h2)) (by omega)
theorem frac_small {i : Int} {d : Nat} (hd : 0 < d) (hd2 : d ≤ 8) (hi : i.natAbs ≤ 8) : (Rat.divInt i (d : Int)).num.natAbs ≤ 8 ∧ (Rat.divInt i (d : Int)).den ≤ 8 := by
  constructor
  · rw [Rat.num_divInt, Int.sign_eq_one_of_pos (by omega), Int.one_mul, Int.natAbs_ediv_of_dvd]
    · exact Nat.le_trans (Nat.div_le_self _ _) hi
    · exact Int.gcd_dvd_right ..
  · rw [Rat.den_divInt, if_neg (by omega)]
    have : ((d : Int)).natAbs / Int.gcd (d : Int) i ≤ ((d : Int)).natAbs := Nat.div_le_self _ _
    omega
theorem log_small {b : Int} (h : b.natAbs < 2 ^ 10) : b.natAbs.log2 < 200000000 := by
  by_cases h0 : b.natAbs = 0
  · rw [h0]; decide
  · have := (Nat.log2_lt h0).mpr h
    omega
theorem mul_two (d : PyData) : binD .mul (.list [d]) (.int 2) = some (.list [d, d]) := rfl
theorem k85_plain (ns : List Int) : ∃ k', denSs PL DnLib.G MW DnLib.law_k85.body (.scr ns :: List.replicate 20 .un) (0, 0, 0) = some (.rt (.bool true) k' false) := by
  obtain ⟨k0, d0, o0⟩ := PL_mk ns 0 (by omega)
  obtain ⟨n, m, Z, Q, k1, d1, hD, o1⟩ := draw_machine (l := 41) o0 (by omega) (by omega)
  obtain ⟨h, k2, d2, hH, o2⟩ := draw_hidden (l := 41) hD o1 (by omega) (by omega)
  obtain ⟨t, k3, d3, ht, o3⟩ := tap (l := 41) (top := 3) (by omega) (by omega) o2 (by omega) (by omega)
  obtain ⟨w0, k4, d4, o4, hw0⟩ := draw_steady (l := 41) (1 + t) (by omega) o3 (by omega) (by omega)
  have sw0 : Sg 12 4 w0 := ⟨P.Ht_up hw0.ht (by omega), by have := hw0.len; omega⟩
  obtain ⟨c, k5, d5, hc, o5⟩ := tap (l := 41) (top := 2) (by omega) (by omega) o4 (by omega) (by omega)
  obtain ⟨p, w, M, ec, eb, sp, sw⟩ := hD.mach hH
  have H1 : Hid 1 := ⟨P.c_C0 1, Sg.one _ _ (by omega), Mach.steady_one⟩
  obtain ⟨p1, w1, M1, _⟩ := hD.mach H1
  obtain ⟨rfl, rfl⟩ := M.base.uniq M1.base
  have n1 : n * 1 = n := by grind
  have m1 : m * 1 = m := by grind
  -- the wished row
  have hwd : ∃ (wd : P) (k6 : KS), wd.c 0 = 1 ∧ Sg 16 6 wd ∧ OkK 60 k6 ∧ denS PL DnLib.G MW (.iff (.cmp .eq (.callC 144 1 (.cons (.int 2) .nil)) (.int 0)) (.cons (.asg 7 (.call 155 (.cons (.var 7) (.cons (.callC 145 1 (.cons cWilds .nil)) .nil)))) .nil) .nil) [.scr ns, .csk, da (encP n), da (encP m), da (.list (Z.map enc)), da (.list (Q.map enc)), da (pr (n * h) (m * h)), da (encP w0), .un, .un, .un, .un, .un, .un, .un, .un, .un, .un, .un, .un, .un] k4 = some (.nx [.scr ns, .csk, da (encP n), da (encP m), da (.list (Z.map enc)), da (.list (Q.map enc)), da (pr (n * h) (m * h)), da (encP wd), .un, .un, .un, .un, .un, .un, .un, .un, .un, .un, .un, .un, .un] k6) := by
    by_cases hc0 : c = 0
    · subst hc0
      obtain ⟨x, k6, hx, d6, o6⟩ := draw_of (l := 41) (wilds.map encP) (by decide) (by decide) o5 (by omega) (by omega)
      obtain ⟨q, hq, rfl⟩ := List.mem_map.mp hx
      obtain ⟨q0, sq⟩ := wilds_ok q hq
      refine ⟨w0 * q, k6, by rw [P.c0_mul, hw0.c0, q0, Rat.one_mul], (sw0.mul sq).up (by omega) (by omega), o6.up (by omega), ?_⟩
      exact ws_ifT (we_cmp (d := true) (we_callC rfl (wa_one rfl) d5) rfl (cmp_eqI _ _)) (ss_nx (ws_asg (we_call (wa_two rfl (we_callC rfl (wa_one wilds_den) d6)) ((law_times w0 q (sw0.ml sq (by omega) (by omega) (by omega))).L (by omega) (by omega))) rfl) rfl)
    · refine ⟨w0, k5, hw0.c0, sw0.up (by omega) (by omega), o5.up (by omega), ?_⟩
      exact ws_ifF (we_cmp (d := false) (we_callC rfl (wa_one rfl) d5) rfl (by rw [cmp_eqI, decide_eq_false (by omega)])) rfl
  obtain ⟨wd, k6, wc, swd, o6, s4⟩ := hwd
  -- the least helm
  obtain ⟨q, a, b, ea, eb2, hL⟩ := Least.of M.base wd
  have swd2 : Sg 1000 60 wd := swd.up (by omega) (by omega)
  have spw : Sg 876 9 (p * wd) := (sp.mul swd).up (by omega) (by omega)
  have sa : Sg 1000 4 a := ⟨P.Ht_up (P.Ht_div (k := 9) spw.1 hD.sm.1 (by have := spw.2; have := P.len_pos M.m0; omega) ea hL.lt).1 (by omega), by have := hL.lt; have := hD.sm.2; omega⟩
  have swna : Sg 1040 10 (wd - n * a) := (swd.sub (hD.sn.mul sa)).up (by omega) (by omega)
  have ebm : wd - n * a = b * m + 0 := by have := hL.eq; grind
  have sb : Sg 1180 10 b := ⟨P.Ht_up (P.Ht_div (k := 10) swna.1 hD.sm.1 (by have := swna.2; have := P.len_pos M.m0; omega) ebm (by rw [P.len_zero]; exact P.len_pos M.m0)).2 (by omega), by
    by_cases hb : b = 0
    · rw [hb, P.len_zero]; omega
    · have h1 := (P.len_mul hb M.m0).1
      have h2 := swna.2
      have h3 := P.len_pos M.m0
      rw [ebm, show b * m + 0 = b * m by grind] at h2
      omega⟩
  have bc : b.c 0 = 1 := by
    have : (m * b + n * a).c 0 = wd.c 0 := by rw [hL.eq]
    rw [P.c_add, P.c0_mul, P.c0_mul, M.mc, M.nc, wc] at this
    grind
  have L1 : Least n m 1 p w := ⟨M.base.eq, M.base.lt⟩
  have e1 : p * 1 = 0 * m + p := by grind
  have hw1 : h * wd = wd * h := by grind
  -- the row more
  obtain ⟨i, k7, d7, hi, o7⟩ := tap (l := 41) (top := 7) (by omega) (by omega) o6 (by omega) (by omega)
  obtain ⟨j, k8, d8, hj, o8⟩ := tap (l := 41) (top := 3) (by omega) (by omega) o7 (by omega) (by omega)
  have fx := frac_small (i := (i : Int) - 3) (d := 2) (by omega) (by omega) (by omega)
  have fy := frac_small (i := 1 + (j : Int)) (d := 3) (by omega) (by omega) (by omega)
  have hy : Rat.divInt (1 + (j : Int)) ((3 : Nat) : Int) ≠ 0 := by
    have h3 : j = 0 ∨ j = 1 ∨ j = 2 := by omega
    rcases h3 with rfl | rfl | rfl <;> decide +kernel
  obtain ⟨em, sm⟩ := more_ok fx.1 fx.2 fy.1 fy.2 hy
  generalize hmore : P.mk' [Rat.divInt ((i : Int) - 3) ((2 : Nat) : Int), Rat.divInt (1 + (j : Int)) ((3 : Nat) : Int)] = more at em sm
  have sa' : Sg 1030 6 (a + m * more) := (sa.add (hD.sm.mul sm)).up (by omega) (by omega)
  have sb' : Sg 1220 10 (b - n * more) := (sb.sub (hD.sn.mul sm)).up (by omega) (by omega)
  have bc' : (b - n * more).c 0 = 1 := by rw [P.c_sub, P.c0_mul, bc, M.nc]; grind
  have ecl : h * (m * (b - n * more) + n * (a + m * more)) = h * wd := by rw [show m * (b - n * more) + n * (a + m * more) = m * b + n * a by grind, hL.eq]
  have ecl0 : h * (m * b + n * a) = h * wd := by rw [hL.eq]
  -- what the package tells
  have c5 := (law_core M).L (k := k6) (by omega) (by omega)
  have c6 := (law_base n m p w ec M.base (hD.sn.up (by omega) (by omega)) (hD.sm.up (by omega) (by omega)) (sp.up (by omega) (by omega))).L (k := k6) (by omega) (by omega)
  have c7a := M.hidden_part.L (k := k6) (by omega) (by omega)
  have c7b := M.core_of.L (k := k6) (by omega) (by omega)
  have c8a := (M.base_helm ec).L (k := k6) (by omega) (by omega)
  have c8b := (M1.least_helm ec (Sg.one 1000 60 (by omega)) (P.c_C0 1) e1 L1).L (k := k6) (by omega) (by omega)
  have c8c := (M.least_helm ec (Sg.one 1000 60 (by omega)) (P.c_C0 1) e1 L1).L (k := k6) (by omega) (by omega)
  rw [n1, m1, show (1 : P) * 1 = 1 by grind] at c8b
  rw [show (1 : P) * h = h by grind] at c8c
  have c10a := (M.least_helm ec swd2 wc ea hL).L (k := k6) (by omega) (by omega)
  have c10b := (law_helm ec M.base M.sn M.sm M.sp swd2 ea hL).L (k := k6) (by omega) (by omega)
  have c10c := (law_times h wd (hH.sg.ml swd (by omega) (by omega) (by omega))).L (k := k6) (by omega) (by omega)
  have c11a := (M1.least_helm ec swd2 wc ea hL).L (k := k6) (by omega) (by omega)
  rw [n1, m1, show wd * 1 = wd by grind] at c11a
  have c12a := (law_times p wd (sp.ml swd (by omega) (by omega) (by omega))).L (k := k6) (by omega) (by omega)
  have c12b := (law_parted (p * wd) m q a (spw.pt hD.sm M.m0 (by omega) (by omega) (by omega)) ea hL.lt).L (k := k6) (by omega) (by omega)
  have c13a := (law_f ((i : Int) - 3) ((2 : Nat) : Int) (by omega) (log_small (by decide))).L (k := k7) (by omega) (by omega)
  have c13b := (law_f (1 + (j : Int)) ((3 : Nat) : Int) (by omega) (log_small (by decide))).L (k := k8) (by omega) (by omega)
  have c14a := (law_times m more (hD.sm.ml sm (by omega) (by omega) (by omega))).L (k := k8) (by omega) (by omega)
  have c14b := (law_plus a (m * more) (sa.ad (hD.sm.mul sm) (by omega) (by omega) (by omega))).L (k := k8) (by omega) (by omega)
  have c14c := (law_times n more (hD.sn.ml sm (by omega) (by omega) (by omega))).L (k := k8) (by omega) (by omega)
  have c14d := (law_less b (n * more) (sb.ad (hD.sn.mul sm) (by omega) (by omega) (by omega))).L (k := k8) (by omega) (by omega)
  have c15a := (M.closing_row (B := 2000) (by omega) (sa.up (by omega) (by omega)) (sb.up (by omega) (by omega)) bc).L (k := k8) (by omega) (by omega)
  have c15b := (M.closing_row (B := 2000) (by omega) (sa'.up (by omega) (by omega)) (sb'.up (by omega) (by omega)) bc').L (k := k8) (by omega) (by omega)
  rw [ecl0] at c15a
  rw [ecl] at c15b
  have c15c := (law_times h wd (hH.sg.ml swd (by omega) (by omega) (by omega))).L (k := k8) (by omega) (by omega)
  have c16a := (size_of_enc n m (by have := hD.sn.2; omega) (by have := hD.sm.2; omega) M.n0 M.nc M.mc).L (k := k8) (by omega) (by omega)
  have c16b := (helm_size_enc p w (by have := sp.2; omega) (by have := sw.2; omega) M.wc).L (k := k8) (by omega) (by omega)
  have c18a := (M1.fewest ec).L (k := k8) (by omega) (by omega)
  rw [if_pos rfl, n1, m1] at c18a
  have c18b := (M.fewest ec).L (k := k8) (by omega) (by omega)
  have e18 : (if h = 1 then PyData.int (sizeI (n * h) (m * h) + sizeI p w) else .none) = (if h = 1 then .int (sizeI n m + sizeI p w) else .none) := by
    by_cases h1 : h = 1
    · rw [if_pos h1, if_pos h1, h1, n1, m1]
    · rw [if_neg h1, if_neg h1]
  rw [e18] at c18b
  have c20a := (M.free_base ec eb).L (k := k8) (by omega) (by omega)
  have c20b := (M.helm_nought ec eb).L (k := k8) (by omega) (by omega)
  -- texts
  have rh : Rp 120000 2 (encP h) := Rp_row (hH.sg) (by omega) (by omega)
  have rnm : Rp 240007 3 (pr n m) := Rp_two (Rp_row hD.sn (by omega) (by omega)) (Rp_row hD.sm (by omega) (by omega))
  have rpw : Rp 240007 3 (pr p w) := Rp_two (Rp_row sp (by omega) (by omega)) (Rp_row sw (by omega) (by omega))
  have rab : Rp 240007 3 (pr a b) := Rp_two (Rp_row sa (by omega) (by omega)) (Rp_row sb (by omega) (by omega))
  have ra : Rp 120000 2 (encP a) := Rp_row sa (by omega) (by omega)
  have rhw : Rp 120000 2 (encP (h * wd)) := Rp_row (hH.sg.mul swd) (by omega) (by omega)
  have r01 : Rp 240007 3 (pr 0 1) := Rp_two (Rp_row (Sg.zero 0 1) (by omega) (by omega)) (Rp_row (Sg.one 0 1 (by omega)) (by omega) (by omega))
  have hsz : ∀ x y : P, x.len ≤ 100 → y.len ≤ 100 → -1 ≤ sizeI x y ∧ sizeI x y ≤ 99 := fun x y hx hy => by
    unfold sizeI
    split <;> omega
  have z1 := hsz n m (by have := hD.sn.2; omega) (by have := hD.sm.2; omega)
  have z2 := hsz p w (by have := sp.2; omega) (by have := sw.2; omega)
  have rmany : Rp 1921 0 (.int (sizeI n m + sizeI p w)) := Rp_int (by
    by_cases h0 : (sizeI n m + sizeI p w).natAbs = 0
    · rw [h0]; decide
    · have := (Nat.log2_lt h0).mpr (show (sizeI n m + sizeI p w).natAbs < 2 ^ 10 by omega)
      omega)
  have rdue : Rp 1921 0 (if h = 1 then .int (sizeI n m + sizeI p w) else .none) := by
    by_cases h1 : h = 1
    · rw [if_pos h1]; exact rmany
    · rw [if_neg h1]; exact Rp_none.up (by omega) (by omega)
  have s17 : den PL DnLib.G (.ite (.cmp .eq (.var 8) (.tup (.cons (.tup (.cons (.int 1) (.cons (.int 1) .nil))) .nil))) (.var 18) .non) false [.scr ns, .csk, da (encP n), da (encP m), da (.list (Z.map enc)), da (.list (Q.map enc)), da (pr (n * h) (m * h)), da (encP wd), da (encP h), da (encP n), da (encP m), da (pr p w), da (pr n m), .dat true (.list [pr p w, pr p w, pr p w]), da (pr a b), da (pr a b), da (encP more), da (pr (a + m * more) (b - n * more)), da (.int (sizeI n m + sizeI p w)), .un, .un] k8 = some (if h = 1 then .int (sizeI n m + sizeI p w) else .none, k8) := by
    by_cases h1 : h = 1
    · rw [if_pos h1]
      exact we_iteT (we_cmp rfl unit_lit (by rw [cmp_eqP, decide_eq_true h1])) rfl
    · rw [if_neg h1]
      exact we_iteF (we_cmp rfl unit_lit (by rw [cmp_eqP, decide_eq_false h1])) rfl
  refine ⟨k8, ?_⟩
  refine ss_nx (ws_cask (env' := [.scr ns, .csk, .un, .un, .un, .un, .un, .un, .un, .un, .un, .un, .un, .un, .un, .un, .un, .un, .un, .un, .un]) rfl (wa_one rfl) rfl d0 rfl) ?_
  refine ss_nx (ws_unp (env' := [.scr ns, .csk, da (encP n), da (encP m), da (.list (Z.map enc)), da (.list (Q.map enc)), .un, .un, .un, .un, .un, .un, .un, .un, .un, .un, .un, .un, .un, .un, .un]) (we_callC rfl rfl d1) rfl) ?_
  refine ss_nx (ws_par (env' := [.scr ns, .csk, da (encP n), da (encP m), da (.list (Z.map enc)), da (.list (Q.map enc)), da (pr (n * h) (m * h)), da (encP w0), .un, .un, .un, .un, .un, .un, .un, .un, .un, .un, .un, .un, .un]) (wo_two (we_callC rfl (wa_two rfl rfl) d2) (we_callC rfl (wa_one (we_bin (d := .int ((1 + t : Nat) : Int)) rfl (we_callC rfl (wa_one rfl) d3) (by simp only [binD]; congr 2))) d4)) rfl) ?_
  refine ss_nx s4 ?_
  refine ss_nx (ws_unp (env' := [.scr ns, .csk, da (encP n), da (encP m), da (.list (Z.map enc)), da (.list (Q.map enc)), da (pr (n * h) (m * h)), da (encP wd), da (encP h), da (encP n), da (encP m), .un, .un, .un, .un, .un, .un, .un, .un, .un, .un]) (we_call (wa_one rfl) c5) rfl) ?_
  refine ss_nx (ws_par (env' := [.scr ns, .csk, da (encP n), da (encP m), da (.list (Z.map enc)), da (.list (Q.map enc)), da (pr (n * h) (m * h)), da (encP wd), da (encP h), da (encP n), da (encP m), da (pr p w), da (pr n m), .un, .un, .un, .un, .un, .un, .un, .un]) (wo_two (we_call (wa_two rfl rfl) c6) (we_tup (wa_two rfl rfl))) rfl) ?_
  refine ss_nx (ws_ifF (we_reprNe (Rp_list2 (rh.up (by omega) (by omega)) rnm) (by omega) (by omega) (we_lst (wa_two (we_call (wa_one rfl) c7a) (we_call (wa_one rfl) c7b))) (we_lst (wa_two rfl rfl))) rfl) ?_
  refine ss_nx (ws_asg (env' := [.scr ns, .csk, da (encP n), da (encP m), da (.list (Z.map enc)), da (.list (Q.map enc)), da (pr (n * h) (m * h)), da (encP wd), da (encP h), da (encP n), da (encP m), da (pr p w), da (pr n m), .dat true (.list [pr p w, pr p w, pr p w]), .un, .un, .un, .un, .un, .un, .un]) (we_lst (wa_cons (we_call (wa_one rfl) c8a) (wa_two (we_call (wa_two rfl unit_lit) c8b) (we_call (wa_two rfl rfl) c8c)))) rfl) ?_
  refine ss_nx (ws_ifF (we_reprNe (Rp_list3 rpw rpw rpw) (by omega) (by omega) rfl (we_lst (wa_cons rfl (wa_two rfl rfl)))) rfl) ?_
  refine ss_nx (ws_par (env' := [.scr ns, .csk, da (encP n), da (encP m), da (.list (Z.map enc)), da (.list (Q.map enc)), da (pr (n * h) (m * h)), da (encP wd), da (encP h), da (encP n), da (encP m), da (pr p w), da (pr n m), .dat true (.list [pr p w, pr p w, pr p w]), da (pr a b), da (pr a b), .un, .un, .un, .un, .un]) (wo_two (we_call (wa_two rfl (we_call (wa_two rfl rfl) (by rw [← hw1]; exact c10c))) c10a) (we_call (wa_cons rfl (wa_two rfl rfl)) c10b)) rfl) ?_
  refine ss_nx (ws_ifF (we_orF (we_reprNe (Rp_list2 rab rab) (by omega) (by omega) (we_lst (wa_two rfl (we_call (wa_two rfl rfl) c11a))) (we_lst (wa_two rfl rfl))) (we_cmp (d := false) (we_blt (wa_one (we_idx rfl rfl idx0)) (len_row a)) (we_blt (wa_one rfl) (len_row m)) (by show some (decide _) = _; rw [decide_eq_false (by have := hL.lt; omega)]))) rfl) ?_
  refine ss_nx (ws_ifF (we_reprNe ra (by omega) (by omega) (we_idx (we_call (wa_two (we_call (wa_two (we_idx rfl rfl idx0) rfl) c12a) rfl) c12b) rfl idx1) (we_idx rfl rfl idx0)) rfl) ?_
  refine ss_nx (ws_asg (env' := [.scr ns, .csk, da (encP n), da (encP m), da (.list (Z.map enc)), da (.list (Q.map enc)), da (pr (n * h) (m * h)), da (encP wd), da (encP h), da (encP n), da (encP m), da (pr p w), da (pr n m), .dat true (.list [pr p w, pr p w, pr p w]), da (pr a b), da (pr a b), da (encP more), .un, .un, .un, .un]) (by rw [em]; exact we_tup (wa_two (we_call (wa_two (we_bin (d := .int ((i : Int) - 3)) (we_callC rfl (wa_one rfl) d7) rfl rfl) rfl) c13a) (we_call (wa_two (we_bin (d := .int (1 + (j : Int))) rfl (we_callC rfl (wa_one rfl) d8) rfl) rfl) c13b))) rfl) ?_
  refine ss_nx (ws_asg (env' := [.scr ns, .csk, da (encP n), da (encP m), da (.list (Z.map enc)), da (.list (Q.map enc)), da (pr (n * h) (m * h)), da (encP wd), da (encP h), da (encP n), da (encP m), da (pr p w), da (pr n m), .dat true (.list [pr p w, pr p w, pr p w]), da (pr a b), da (pr a b), da (encP more), da (pr (a + m * more) (b - n * more)), .un, .un, .un]) (we_tup (wa_two (we_call (wa_two (we_idx rfl rfl idx0) (we_call (wa_two rfl rfl) c14a)) c14b) (we_call (wa_two (we_idx rfl rfl idx1) (we_call (wa_two rfl rfl) c14c)) c14d))) rfl) ?_
  refine ss_nx (ws_ifF (we_reprNe (Rp_list2 rhw rhw) (by omega) (by omega) (we_lst (wa_two (we_call (wa_two rfl rfl) c15a) (we_call (wa_two rfl rfl) c15b))) (we_bin (we_lst (wa_one (we_call (wa_two rfl rfl) c15c))) rfl (mul_two _))) rfl) ?_
  refine ss_nx (ws_asg (env' := [.scr ns, .csk, da (encP n), da (encP m), da (.list (Z.map enc)), da (.list (Q.map enc)), da (pr (n * h) (m * h)), da (encP wd), da (encP h), da (encP n), da (encP m), da (pr p w), da (pr n m), .dat true (.list [pr p w, pr p w, pr p w]), da (pr a b), da (pr a b), da (encP more), da (pr (a + m * more) (b - n * more)), da (.int (sizeI n m + sizeI p w)), .un, .un]) (we_bin (we_call (wa_one rfl) c16a) (we_call (wa_one rfl) c16b) rfl) rfl) ?_
  refine ss_nx (ws_asg (env' := [.scr ns, .csk, da (encP n), da (encP m), da (.list (Z.map enc)), da (.list (Q.map enc)), da (pr (n * h) (m * h)), da (encP wd), da (encP h), da (encP n), da (encP m), da (pr p w), da (pr n m), .dat true (.list [pr p w, pr p w, pr p w]), da (pr a b), da (pr a b), da (encP more), da (pr (a + m * more) (b - n * more)), da (.int (sizeI n m + sizeI p w)), da (if h = 1 then .int (sizeI n m + sizeI p w) else .none), .un]) s17 rfl) ?_
  refine ss_nx (ws_ifF (we_reprNe (Rp_list2 rmany rdue) (by omega) (by omega) (we_lst (wa_two (we_call (wa_one rfl) c18a) (we_call (wa_one rfl) c18b))) (we_lst (wa_two rfl rfl))) rfl) ?_
  refine ss_nx (ws_asg (env' := [.scr ns, .csk, da (encP n), da (encP m), da (.list (Z.map enc)), da (.list (Q.map enc)), da (pr (n * h) (m * h)), da (encP wd), da (encP h), da (encP n), da (encP m), da (pr p w), da (pr n m), .dat true (.list [pr p w, pr p w, pr p w]), da (pr a b), da (pr a b), da (encP more), da (pr (a + m * more) (b - n * more)), da (.int (sizeI n m + sizeI p w)), da (if h = 1 then .int (sizeI n m + sizeI p w) else .none), da (pr 0 1)]) (we_tup (wa_two tup_nil unit_lit)) rfl) ?_
  exact ss_rt (ws_ret (we_reprEq (Rp_list2 r01 rpw) (by omega) (by omega) (we_lst (wa_two (we_call (wa_two rfl rfl) c20a) (we_call (wa_two rfl rfl) c20b))) (we_lst (wa_two rfl rfl))))
theorem k85_hlaw (ns : List Int) : ∃ k', runFn PL DnLib.G MW ⟨21, 1, DnLib.law_k85.body⟩ [.scr ns] (0, 0, 0) = some (.bool true, k') := by
  obtain ⟨k', h⟩ := k85_plain ns
  refine ⟨k', ?_⟩
  unfold runFn
  refine (if_pos rfl).trans ?_
  show (denSs PL DnLib.G MW DnLib.law_k85.body (.scr ns :: List.replicate 20 .un) (0, 0, 0)).bind _ = _
  rw [h]
  rfl
end Dn
set_option Elab.async false
set_option linter.all false
set_option maxRecDepth 100000
/-! DnN1: answers: reduced quotients of rows. -/
namespace Dn
open PySem
open P (Sg)
namespace P
/-- a / b is t / u, reduced, b led -/
structure Nf (t u a b : P) : Prop where
  c0 : b.c 0 = 1
  cop : ∃ e f, e * a + f * b = 1
  eq : t * b = a * u
theorem led_unit {a b x y : P} (h1 : a = x * b) (h2 : b = y * a) (ha : a.c 0 = 1) (hb : b.c 0 = 1) : a = b := by
  have ha0 : a ≠ 0 := by intro z; rw [z, c_zero] at ha; exact absurd ha (by grind)
  have hx : x ≠ 0 := by intro z; rw [z] at h1; apply ha0; grind
  have hy : y ≠ 0 := by intro z; rw [z] at h2; rw [h2] at hb; rw [show (0 : P) * a = 0 by grind, c_zero] at hb; exact absurd hb (by grind)
  have e : a * 1 = a * (x * y) := by grind
  have exy : (1 : P) = x * y := cancel ha0 e
  have hl := (len_mul hx hy).1
  rw [← exy] at hl
  have l1 := len_C 1
  have lx := len_pos hx
  have ly := len_pos hy
  have l1' : (1 : P).len ≤ 1 := l1
  have ex : x = C (x.c 0) := ext fun i => by
    cases i with
    | zero => rw [c_C0]
    | succ i => rw [c_CS, c_ge (by omega)]
  have hx0 : x.c 0 = 1 := by
    have := congrArg (fun p => P.c p 0) h1
    simp only [c0_mul, ha, hb] at this
    grind
  rw [hx0, C_one] at ex
  rw [h1, ex]; grind
theorem Nf.uniq {t u a b a' b' : P} (hu : u ≠ 0) (h : Nf t u a b) (h' : Nf t u a' b') : a = a' ∧ b = b' := by
  have e1 : a * b' = a' * b := by
    apply cancel hu
    have := h.eq
    have := h'.eq
    grind
  obtain ⟨e, f, hc⟩ := h.cop
  obtain ⟨e', f', hc'⟩ := h'.cop
  have d1 : b' = (e * a' + f * b') * b := by
    have : b' = (e * a + f * b) * b' := by rw [hc]; grind
    grind
  have d2 : b = (e' * a + f' * b) * b' := by
    have : b = (e' * a' + f' * b') * b := by rw [hc']; grind
    grind
  have hb := led_unit d2 d1 h.c0 h'.c0
  subst hb
  have hb0 : b ≠ 0 := by intro z; have := h.c0; rw [z, c_zero] at this; exact absurd this (by grind)
  exact ⟨cancel hb0 (by grind), rfl⟩
/-- the same quotient -/
theorem Nf.cong {t u a b t' u' : P} (h : Nf t u a b) (hu : u ≠ 0) (e : t * u' = t' * u) : Nf t' u' a b := by
  refine ⟨h.c0, h.cop, cancel hu ?_⟩
  have := h.eq
  grind
theorem Nf.ne {t u a b : P} (h : Nf t u a b) : b ≠ 0 := by intro z; have := h.c0; rw [z, c_zero] at this; exact absurd this (by grind)
/-- under is a multiple of b -/
theorem Nf.dvd {t u a b : P} (h : Nf t u a b) : ∃ g, u = g * b ∧ t = g * a := by
  obtain ⟨e, f, hc⟩ := h.cop
  refine ⟨e * t + f * u, ?_, ?_⟩
  · have : u = (e * a + f * b) * u := by rw [hc]; grind
    have := h.eq
    grind
  · have : t = (e * a + f * b) * t := by rw [hc]; grind
    have := h.eq
    grind
theorem Nf.zero {u a b : P} (hu : u ≠ 0) (h : Nf 0 u a b) : a = 0 ∧ b = 1 := by
  refine Nf.uniq hu h ⟨c_C0 1, ⟨0, 1, by grind⟩, by grind⟩
theorem Nf.ex {t u : P} (h : ∃ g, IsG g t u) (hu : u.c 0 ≠ 0) : ∃ a b, Nf t u a b := by
  obtain ⟨g, ⟨e, f, h1⟩, ⟨t1, h2⟩, ⟨u1, h3⟩, h4⟩ := h
  have hu0 : u ≠ 0 := by intro z; rw [z, c_zero] at hu; exact hu rfl
  have hg0 : g ≠ 0 := by intro z; rw [z] at h3; apply hu0; grind
  have hu1 : u1.c 0 ≠ 0 := by
    intro z
    rw [h3, c0_mul, z, Rat.zero_mul] at hu
    exact hu rfl
  have h5 : (1 : P) = e * t1 + f * u1 := by
    apply cancel hg0
    grind
  have hC : C (u1.c 0) * C (1 / u1.c 0) = 1 := by rw [← C_mulC, ← C_one]; congr 1; grind
  refine ⟨C (1 / u1.c 0) * t1, C (1 / u1.c 0) * u1, by rw [C_mul]; grind, ⟨C (u1.c 0) * e, C (u1.c 0) * f, by grind⟩, by grind⟩
theorem gcd_ex (p q : P) (h : p ≠ 0 ∨ q ≠ 0) : ∃ g, IsG g p q := by
  have key : ∀ n (p q : P), q.len = n → (p ≠ 0 ∨ q ≠ 0) → ∃ g, IsG g p q := by
    intro n
    induction n using Nat.strongRecOn with
    | ind n ih =>
      intro p q hn h0
      by_cases hq : q = 0
      · subst hq
        have hp : p ≠ 0 := by rcases h0 with h | h; · exact h
                              · exact absurd rfl h
        have hl := low_ne hp
        have hC : C p.low * C (1 / p.low) = 1 := by rw [← C_mulC, ← C_one]; congr 1; grind
        exact ⟨C (1 / p.low) * p, ⟨C (1 / p.low), 0, by grind⟩, ⟨C p.low, by grind⟩, ⟨0, by grind⟩, by rw [low_C (by grind)]; grind⟩
      · obtain ⟨s, r, h1, h2⟩ := div_ex' hq p
        obtain ⟨g, ⟨e, f, g1⟩, ⟨u, g2⟩, ⟨v, g3⟩, g4⟩ := ih r.len (by omega) q r rfl (.inl hq)
        exact ⟨g, ⟨f, e - f * s, by grind⟩, ⟨s * u + v, by grind⟩, ⟨u, g2⟩, g4⟩
  exact key q.len p q rfl h
theorem Nf.ex' (t : P) {u : P} (hu : u.c 0 ≠ 0) : ∃ a b, Nf t u a b :=
  Nf.ex (gcd_ex t u (.inr fun z => by rw [z, c_zero] at hu; exact hu rfl)) hu
theorem pot (d : Nat) (h : 1 ≤ d) : 2 ^ d * 5 ≤ 5 ^ d * 2 ∧ 2 ^ d * (5 * d + 7) ≤ 5 ^ d * 5 ∧ 2 ^ d * (5 * d + 12) ≤ 5 ^ d * 7 := by
  induction d with
  | zero => omega
  | succ d ih =>
    by_cases hd : d = 0
    · subst hd; decide
    · obtain ⟨h1, h2, h3⟩ := ih (by omega)
      have e2 : 2 ^ (d + 1) = 2 * 2 ^ d := by rw [Nat.pow_succ, Nat.mul_comm]
      have e5 : 5 ^ (d + 1) = 5 * 5 ^ d := by rw [Nat.pow_succ, Nat.mul_comm]
      have hm : 2 ^ d * (5 * (d + 1) + 7) = 2 ^ d * (5 * d + 7) + 2 ^ d * 5 := by rw [← Nat.mul_add]; congr 1
      have hm2 : 2 ^ d * (5 * (d + 1) + 12) = 2 ^ d * (5 * d + 12) + 2 ^ d * 5 := by rw [← Nat.mul_add]; congr 1
      rw [e2, e5, Nat.mul_assoc 2, Nat.mul_assoc 2, Nat.mul_assoc 2, hm, hm2]
      omega
/-- Euclid's way for two multiples of g -/
theorem eu_exg {g : P} {G : Nat} (hg : g ≠ 0) (hG : Ht G g) (lg : g.len ≤ 500) : ∀ (L : Nat) (one two e f : P) (a b : Nat), HtP a one e → HtP b two f → two.len < one.len → one.len ≤ L + 1 → L ≤ 300 → e.len ≤ 1000 → f.len ≤ 1000 → e.len + one.len ≤ 1000 → f.len + one.len ≤ 1000 → a + G ≤ 12000000 → 5 ^ L * (2 * (a + G) + 5 * (b + G) + 7) ≤ 2 ^ L * 150000000 →
    ∃ one' e' t, Eu (one * g) (two * g) e f one' e' t ∧ t ≤ two.len ∧ Ht 12000000 one' ∧ Ht 12000000 e' ∧ e'.len ≤ 1000 ∧ one'.len ≤ one.len + g.len := by
  intro L
  induction L using Nat.strongRecOn with
  | ind L ih =>
    intro one two e f a b h1 h2 hl hL hL9 he hf hel hfl hM1 hM
    have hlo := len_mul_le one g
    by_cases h0 : two = 0
    · subst h0
      rw [show (0 : P) * g = 0 by grind]
      exact ⟨one * g, e, 0, .done, by omega, Ht_up (Ht_mul h1.l hG) (by omega), Ht_up h1.r (by omega), he, by omega⟩
    · have lt := len_pos h0
      have hone : one ≠ 0 := by intro z; rw [z, len_zero] at hl; omega
      obtain ⟨d, hd⟩ : ∃ d, one.len = two.len + d := ⟨one.len - two.len, by omega⟩
      have hd1 : 1 ≤ d := by omega
      obtain ⟨q, r, a1, a2, a3, a4⟩ := HtP_div (k := d + 1) h0 h1 h2 (by omega)
      -- the potential
      obtain ⟨p1, p2, p3⟩ := pot d hd1
      have key : ∀ x y : Nat, 2 ^ d * (2 * y + 5 * (x + (d + 1) * (y + 1)) + 7) ≤ 5 ^ d * (2 * x + 5 * y + 7) := fun x y => by
        have q1 := Nat.mul_le_mul_right x p1
        have q2 := Nat.mul_le_mul_right y p2
        have e1 : 2 ^ d * (2 * y + 5 * (x + (d + 1) * (y + 1)) + 7) = 2 ^ d * 5 * x + 2 ^ d * (5 * d + 7) * y + 2 ^ d * (5 * d + 12) := by grind
        have e2 : 5 ^ d * (2 * x + 5 * y + 7) = 5 ^ d * 2 * x + 5 ^ d * 5 * y + 5 ^ d * 7 := by grind
        rw [e1, e2]; omega
      have eL5 : 5 ^ L = 5 ^ (L - d) * 5 ^ d := by rw [← Nat.pow_add]; congr 1; omega
      have eL2 : 2 ^ L = 2 ^ (L - d) * 2 ^ d := by rw [← Nat.pow_add]; congr 1; omega
      have hstep : 5 ^ (L - d) * (2 * (b + G) + 5 * ((a + G) + (d + 1) * ((b + G) + 1)) + 7) ≤ 2 ^ (L - d) * 150000000 := by
        have k1 := Nat.mul_le_mul_left (5 ^ (L - d)) (key (a + G) (b + G))
        rw [eL5, Nat.mul_assoc] at hM
        have k2 := Nat.le_trans k1 hM
        rw [eL2] at k2
        have k3 : 2 ^ d * (5 ^ (L - d) * (2 * (b + G) + 5 * ((a + G) + (d + 1) * ((b + G) + 1)) + 7)) ≤ 2 ^ d * (2 ^ (L - d) * 150000000) := by
          have e1 : 5 ^ (L - d) * (2 ^ d * (2 * (b + G) + 5 * ((a + G) + (d + 1) * ((b + G) + 1)) + 7)) = 2 ^ d * (5 ^ (L - d) * (2 * (b + G) + 5 * ((a + G) + (d + 1) * ((b + G) + 1)) + 7)) := by rw [Nat.mul_left_comm]
          have e2 : 2 ^ (L - d) * 2 ^ d * 150000000 = 2 ^ d * (2 ^ (L - d) * 150000000) := by rw [Nat.mul_comm (2 ^ (L - d)), Nat.mul_assoc]
          omega
        exact Nat.le_of_mul_le_mul_left k3 (Nat.two_pow_pos d)
      have hle52 : 2 ^ (L - d) ≤ 5 ^ (L - d) := Nat.pow_le_pow_left (by omega) _
      have hp5 : 1 ≤ 5 ^ (L - d) := Nat.pow_pos (by omega)
      have hb1 : 2 * (b + G) + 5 * ((a + G) + (d + 1) * ((b + G) + 1)) + 7 ≤ 150000000 := by
        have k1 := Nat.mul_le_mul_right 150000000 hle52
        exact Nat.le_of_mul_le_mul_left (Nat.le_trans hstep k1) hp5
      have hb2 : b + G ≤ 12000000 := by
        -- L is at least 1
        have hL1 : 1 ≤ L := by omega
        have e5 : 5 ^ L = 5 ^ (L - 1) * 5 := by rw [← Nat.pow_succ]; congr 1; omega
        have e2 : 2 ^ L = 2 ^ (L - 1) * 2 := by rw [← Nat.pow_succ]; congr 1; omega
        rw [e5, e2, Nat.mul_assoc, Nat.mul_assoc] at hM
        have k1 := Nat.mul_le_mul_right (2 * 150000000) (Nat.pow_le_pow_left (show 2 ≤ 5 by omega) (L - 1))
        have := Nat.le_of_mul_le_mul_left (Nat.le_trans hM k1) (Nat.pow_pos (by omega) : 0 < 5 ^ (L - 1))
        omega
      have hmul : (d + 1) * (b + 1) ≤ (d + 1) * ((b + G) + 1) := Nat.mul_le_mul_left _ (by omega)
      have hmul2 : (d + 1) * (b + 2) = (d + 1) * (b + 1) + (d + 1) := by rw [← Nat.mul_succ]
      have hmul3 : (d + 1) * (b + G + 2) = (d + 1) * ((b + G) + 1) + (d + 1) := by rw [← Nat.mul_succ]
      have hq : q.len ≤ d + 1 := by
        by_cases hq0 : q = 0
        · subst hq0; rw [len_zero]; omega
        · have h3 := len_mul hq0 h0
          have h4 := len_sub one r
          rw [show one - r = q * two by grind] at h4
          omega
      have hqf : (q * f).len ≤ d + f.len := by have := len_mul_le q f; omega
      have hef := len_sub e (q * f)
      have htg := len_mul h0 hg
      have hrg : (r * g).len < (two * g).len := by
        by_cases hr : r = 0
        · rw [hr, show (0 : P) * g = 0 by grind, len_zero]; exact len_pos htg.2.2
        · have := len_mul hr hg
          omega
      obtain ⟨one', e', t, b1, b2, b3, b4, b5, b6⟩ := ih (L - d) (by omega) two r f (e - q * f) b (a + (d + 1) * (b + 1)) h2 a3 a2 (by omega) (by omega) hf (by omega) (by omega) (by omega) hb2 (by
          have : 5 ^ (L - d) * (2 * (b + G) + 5 * (a + (d + 1) * (b + 1) + G) + 7) ≤ 5 ^ (L - d) * (2 * (b + G) + 5 * ((a + G) + (d + 1) * ((b + G) + 1)) + 7) := Nat.mul_le_mul_left _ (by omega)
          omega)
      have hog := len_mul hone hg
      refine ⟨one', e', t + 1, .step htg.2.2 ⟨htg.2.2, a + G, b + G, d + 1, Ht_mul h1.l hG, Ht_mul h2.l hG, by omega, by omega, by omega, by omega⟩ (by rw [a1]; grind) hrg ⟨_, b, a4, h2.r, by omega, by omega, by omega⟩ ⟨a + (d + 1) * (b + 2) + b, Ht_up h1.r (by omega), Ht_mul a4 h2.r, by omega, by omega, by omega⟩ b1, by omega, b3, b4, b5, by omega⟩
end P
/-- Euclid's way for a quotient that is a / b when reduced -/
theorem EuOk_red {Aa Ab G L kk : Nat} {a b g : P} (ha : P.Ht Aa a) (hb : P.Ht Ab b) (hG : P.Ht G g) (lb : b.len ≤ L) (la : a.len < b.len + kk) (lk : kk ≤ 100) (lg : g.len ≤ 400) (hb0 : b ≠ 0) (hg0 : g ≠ 0) (hL : L ≤ 100) (hA : Aa + Ab + G ≤ 12000000) (hM : 5 ^ (L - 1) * (2 * (Ab + G) + 5 * (Aa + kk * (Ab + 1) + G) + 7) ≤ 2 ^ (L - 1) * 150000000) (hG2 : Aa + G + kk * (Ab + G + 2) ≤ 40000000) : EuOk (a * g) (b * g) := by
  have hbg := P.len_mul hb0 hg0
  have l1 : (1 : P).len = 1 := P.len_one
  refine ⟨.inr hbg.2.2, ?_⟩
  have hk2 : kk * (Ab + 2) = kk * (Ab + 1) + kk := by rw [← Nat.mul_succ]
  obtain ⟨q, r, a1, a2, a3, a4⟩ := P.HtP_div (k := kk) hb0 (P.HtP_one ha) (P.HtP_self hb) la
  have e1 : (1 : P) - q * 0 = 1 := by grind
  rw [e1] at a3
  have hqz : (q * (0 : P)).len = 0 := by rw [show q * (0 : P) = 0 by grind]; rfl
  have hq : q.len ≤ 300 := by
    by_cases hz : q = 0
    · rw [hz, P.len_zero]; omega
    · have h3 := P.len_mul hz hb0
      have h4 := P.len_sub a r
      rw [show a - r = q * b by grind] at h4
      have := P.len_pos hb0
      omega
  obtain ⟨r', e', t, h1, h2, h3, h4, h5, h6⟩ := P.eu_exg hg0 hG (by omega) (L - 1) b r 0 1 Ab (Aa + kk * (Ab + 1)) (P.HtP_self hb) a3 a2 (by omega) (by omega) (by rw [P.len_zero]; omega) (by omega) (by rw [P.len_zero]; omega) (by omega) (by omega) hM
  have hrg : (r * g).len < (b * g).len := by
    by_cases hr : r = 0
    · rw [hr, show (0 : P) * g = 0 by grind, P.len_zero]; exact P.len_pos hbg.2.2
    · have := P.len_mul hr hg0
      omega
  have lag := P.len_mul_le a g
  have hb1 := P.len_pos hb0
  have hE : P.Eu (a * g) (b * g) 1 0 r' e' (t + 1) := .step hbg.2.2 ⟨hbg.2.2, Aa + G, Ab + G, kk, P.Ht_mul ha hG, P.Ht_mul hb hG, by omega, by omega, by omega, by omega⟩ (by rw [a1]; grind) hrg ⟨_, 0, a4, P.Ht_zero 0, by have : kk * (Ab + 2) ≤ kk * (Ab + G + 2) := Nat.mul_le_mul_left _ (by omega); omega, by omega, by rw [P.len_zero]; omega⟩
    ⟨Aa, (P.HtP_one ha).r, by rw [show q * (0 : P) = 0 by grind]; exact P.Ht_zero Aa, by omega, by omega, by omega⟩ (by rw [e1]; exact h1)
  have := P.len_pos hbg.2.2
  exact ⟨r', e', t + 1, hE, by omega, h3, h4, by omega, h5⟩
/-- the sizes that a reduced quotient a / b of t / u wants -/
structure NfS (Bt Bu Ba Bb Lb : Nat) (t u a b : P) : Prop where
  nf : P.Nf t u a b
  u0 : u.c 0 ≠ 0
  st : Sg Bt 40 t
  su : Sg Bu 20 u
  sa : Sg Ba 40 a
  sb : Sg Bb Lb b
theorem NfS.go {Bt Bu Ba Bb Lb : Nat} {t u a b : P} (h : NfS Bt Bu Ba Bb Lb t u a b) (h1 : Bt ≤ 10000) (h2 : Bu ≤ 3000) (h3 : Ba ≤ 10000) (h4 : Bb ≤ 1000) (h5 : Lb ≤ 10) (hM : 5 ^ (Lb - 1) * (2 * (Bb + (Bu + 20 * (Bb + 2))) + 5 * (Ba + 41 * (Bb + 1) + (Bu + 20 * (Bb + 2))) + 7) ≤ 2 ^ (Lb - 1) * 150000000) (ht : t ≠ 0) :
    ∃ g t1 u1, EuOk t u ∧ P.IsG g t u ∧ t = t1 * g ∧ u = u1 * g ∧ u1.c 0 ≠ 0 ∧ Sg 100000 200 t ∧ Sg 100000 200 u ∧ Sg 100000 200 g ∧ Sg 100000 200 t1 ∧ Sg 100000 200 u1 ∧ P.C (1 / u1.c 0) * t1 = a ∧ P.C (1 / u1.c 0) * u1 = b := by
  obtain ⟨g0, e1, e2⟩ := h.nf.dvd
  have hb0 := h.nf.ne
  have hg0c : g0.c 0 ≠ 0 := by
    intro z
    have := h.u0
    rw [e1, P.c0_mul, z, Rat.zero_mul] at this
    exact this rfl
  have hg0 : g0 ≠ 0 := by intro z; rw [z, P.c_zero] at hg0c; exact hg0c rfl
  have lb := P.len_pos hb0
  have sg : Sg (Bu + 20 * (Bb + 2)) 20 g0 := ⟨(P.Ht_div (k := 20) h.su.1 h.sb.1 (by have := h.su.2; omega) (show u = g0 * b + 0 by grind) (by rw [P.len_zero]; exact lb)).2, by
    have := P.len_mul hg0 hb0
    rw [← e1] at this
    have := h.su.2
    omega⟩
  have hn := P.Ht_num sg.1 0
  have hC1 : P.Ht (Bu + 20 * (Bb + 2)) (P.C (g0.c 0)) := P.Ht_C hn.1 hn.2
  have hC2 : P.Ht (Bu + 20 * (Bb + 2)) (P.C (1 / g0.c 0)) := P.Ht_Cinv hg0c hn.1 hn.2
  have hCC : P.C (g0.c 0) * P.C (1 / g0.c 0) = 1 := by rw [← P.C_mulC, ← P.C_one]; congr 1; grind
  have lC : ∀ x (p : P), (P.C x * p).len ≤ p.len := fun x p => by
    have := P.len_mul_le (P.C x) p
    have := P.len_C x
    omega
  obtain ⟨e, f, hc⟩ := h.nf.cop
  refine ⟨P.C (1 / g0.c 0) * g0, P.C (g0.c 0) * a, P.C (g0.c 0) * b, ?_, ⟨⟨P.C (1 / g0.c 0) * e, P.C (1 / g0.c 0) * f, ?_⟩, ⟨P.C (g0.c 0) * a, ?_⟩, ⟨P.C (g0.c 0) * b, ?_⟩, ?_⟩, ?_, ?_, ?_, h.st.up (by omega) (by omega), h.su.up (by omega) (by omega), ⟨P.Ht_up (P.Ht_mul hC2 sg.1) (by omega), by have := lC (1 / g0.c 0) g0; have := sg.2; omega⟩,
    ⟨P.Ht_up (P.Ht_mul hC1 h.sa.1) (by omega), by have := lC (g0.c 0) a; have := h.sa.2; omega⟩, ⟨P.Ht_up (P.Ht_mul hC1 h.sb.1) (by omega), by have := lC (g0.c 0) b; have := h.sb.2; omega⟩, ?_, ?_⟩
  · rw [e2, e1, show g0 * a = a * g0 by grind, show g0 * b = b * g0 by grind]
    exact EuOk_red (kk := 41) h.sa.1 h.sb.1 sg.1 h.sb.2 (by have := h.sa.2; omega) (by omega) (by have := sg.2; omega) hb0 hg0 (by omega) (by omega) hM (by omega)
  · rw [e1, e2]
    have : g0 = (e * a + f * b) * g0 := by rw [hc]; grind
    grind
  · rw [e2]; grind
  · rw [e1]; grind
  · rw [P.low_C (by grind), P.low_c0 hg0c]; grind
  · rw [e2]; grind
  · rw [e1]; grind
  · rw [P.C_mul, h.nf.c0]; grind
  · rw [P.C_mul, h.nf.c0, show g0.c 0 * 1 = g0.c 0 by grind]; grind
  · rw [P.C_mul, h.nf.c0, show g0.c 0 * 1 = g0.c 0 by grind]; grind
theorem NfS.enc {Bt Bu Ba Bb Lb : Nat} {t u a b : P} (h : NfS Bt Bu Ba Bb Lb t u a b) (h1 : Bt ≤ 10000) (h2 : Bu ≤ 3000) (h3 : Ba ≤ 10000) (h4 : Bb ≤ 1000) (h5 : Lb ≤ 10) (hM : 5 ^ (Lb - 1) * (2 * (Bb + (Bu + 20 * (Bb + 2))) + 5 * (Ba + 41 * (Bb + 1) + (Bu + 20 * (Bb + 2))) + 7) ≤ 2 ^ (Lb - 1) * 150000000) : At 7 36 [da (encP t), da (encP u)] (pr a b) := by
  by_cases ht : t = 0
  · have hu : u ≠ 0 := by intro z; have := h.u0; rw [z, P.c_zero] at this; exact this rfl
    have := h.nf
    rw [ht] at this
    obtain ⟨rfl, rfl⟩ := this.zero hu
    rw [ht]
    exact (normal_zero u).up (by omega)
  · obtain ⟨g, t1, u1, eu, hg, e1, e2, hu, s1, s2, s3, s4, s5, r1, r2⟩ := h.go h1 h2 h3 h4 h5 hM ht
    have := normal_enc (B := 100000) (L := 200) (by omega) (by omega) t u g t1 u1 ht eu hg e1 e2 hu s1 s2 s3 s4 s5
    rw [r1, r2] at this
    exact this
theorem NfS.law {Bt Bu Ba Bb Lb : Nat} {t u a b : P} (h : NfS Bt Bu Ba Bb Lb t u a b) (h1 : Bt ≤ 10000) (h2 : Bu ≤ 3000) (h3 : Ba ≤ 10000) (h4 : Bb ≤ 1000) (h5 : Lb ≤ 10) (hM : 5 ^ (Lb - 1) * (2 * (Bb + (Bu + 20 * (Bb + 2))) + 5 * (Ba + 41 * (Bb + 1) + (Bu + 20 * (Bb + 2))) + 7) ≤ 2 ^ (Lb - 1) * 150000000) : At 5 171 [da (encP t), da (encP u)] (pr a b) := by
  by_cases ht : t = 0
  · have hu : u ≠ 0 := by intro z; have := h.u0; rw [z, P.c_zero] at this; exact this rfl
    have := h.nf
    rw [ht] at this
    obtain ⟨rfl, rfl⟩ := this.zero hu
    rw [ht]
    exact At.of rfl rfl rfl fun l k hk => ⟨_, ss_rt (ws_ifT (we_cmp rfl tup_nil (cmp_eqP 0 0)) (ss_rt (ws_ret (we_tup (wa_two tup_nil unit_lit)))))⟩
  · obtain ⟨g, t1, u1, eu, hg, e1, e2, hu, s1, s2, s3, s4, s5, r1, r2⟩ := h.go h1 h2 h3 h4 h5 hM ht
    have hg0 : g ≠ 0 := by intro z; apply ht; rw [e1, z]; grind
    have hu0 : u1 ≠ 0 := by intro z; rw [z, P.c_zero] at hu; exact hu rfl
    refine At.of rfl rfl rfl fun l k hk => ?_
    have t1' := law_common t u g eu hg (by have := s1.2; omega) (by have := s2.2; omega) l k hk
    have hs : Sm (u1.c 0) := Sm_of s5.1 (by omega) 0
    have t4 := law_div 1 (u1.c 0) Sm_one hs hu l k (by omega)
    have t5 := law_by t1 (1 / u1.c 0) (Sm_inv hs hu) s4.1 (by omega) (by have := s4.2; omega) l k (by omega)
    have t6 := law_by u1 (1 / u1.c 0) (Sm_inv hs hu) s5.1 (by omega) (by have := s5.2; omega) l k (by omega)
    rw [r1] at t5
    rw [r2] at t6
    exact ⟨_, ss_nx (ws_ifF (we_cmp rfl tup_nil (by rw [cmp_eqP, decide_eq_false ht])) rfl)
      (ss_nx (ws_asg (env' := [da (encP t), da (encP u), da (encP g)]) (we_call (wa_two rfl rfl) t1') rfl)
      (ss_nx (ws_par (env' := [da (encP t1), da (encP u1), da (encP g)]) (wo_two (law_quo t g t1 0 (s1.pt s3 hg0 (by omega) (by omega) (by omega)) (by grind) (P.len_pos hg0) rfl (by omega) rfl rfl) (law_quo u g u1 0 (s2.pt s3 hg0 (by omega) (by omega) (by omega)) (by grind) (P.len_pos hg0) rfl (by omega) rfl rfl)) rfl)
      (ss_rt (ws_ret (we_tup (wa_two (we_call (wa_two rfl (we_call (wa_two rfl (we_idx rfl rfl (idx_tup (i := 0) (P.len_pos hu0)))) t4)) t5) (we_call (wa_two rfl (we_call (wa_two rfl (we_idx rfl rfl (idx_tup (i := 0) (P.len_pos hu0)))) t4)) t6)))))))⟩
end Dn
set_option Elab.async false
set_option linter.all false
set_option maxRecDepth 100000
/-! DnS4: the package's look at steadiness, walked. -/
namespace Dn
open PySem
open P (Sg)
theorem zipD_map : ∀ f g : List Rat, zipD (f.map enc) (g.map enc) = (List.range (min f.length g.length)).map fun i => .tuple [enc (cf f i), enc (cf g i)]
  | [], g => by simp [zipD]
  | a :: f, [] => by simp [zipD]
  | a :: f, b :: g => by
    rw [List.map_cons, List.map_cons, zipD, zipD_map f g, List.length_cons, List.length_cons, Nat.add_min_add_right, List.range_succ_eq_map, List.map_cons, List.map_map]
    rfl
theorem Ht_cf {a : Nat} {f : List Rat} (h : P.Ht a (P.mk' f)) (i : Nat) : P.Ht a (P.C (cf f i)) := by
  obtain ⟨D, h⟩ := h
  rw [← P.c_mk]
  exact ⟨D, P.H_C h i⟩
theorem next_enc {a : Nat} {f : List Rat} (hf : cf f 0 = 1) (hl : 2 ≤ f.length) (hl2 : f.length < 9000) (h : P.Ht a (P.mk' f)) (ha : a ≤ 15000000) (hk : ab (cf f (f.length - 1)) < 1) :
    At 5 33 [da (.list (f.map enc)), da (enc (cf f (f.length - 1)))] (.list ((P.nextL f (cf f (f.length - 1))).map enc)) := At.of rfl rfl rfl fun l k hn => by
  have hs := P.ab_sq hk
  have hx : ∀ i, Sm (cf f i) := fun i => Sm_mk h (by omega) i
  have hkk : P.Ht (2 * a) (P.C (cf f (f.length - 1) * cf f (f.length - 1))) := by
    rw [P.C_mulC]; exact P.Ht_up (P.Ht_mul (Ht_cf h _) (Ht_cf h _)) (by omega)
  have hu : P.Ht (2 * a + 1) (P.C (1 - cf f (f.length - 1) * cf f (f.length - 1))) := by
    rw [P.C_sub, P.C_one]; exact P.Ht_up (P.Ht_sub (P.Ht_one 0) hkk) (by omega)
  have t1 := times_enc _ _ (hx (f.length - 1)) (hx (f.length - 1)) l k (by omega)
  have t2 := minus_enc 1 _ Sm_one (Sm_C hkk (by omega)) l k (by omega)
  have hc : den (Ph l) DnLib.G (.comp (.tup (.cons (.one 4) (.cons (.one 5) .nil))) [4, 5] (.zip (.slH (.var 0) (.neg (.int 1))) (.var 3)) (.bl true) (.call 12 (.cons (.call 10 (.cons (.var 4) (.cons (.call 11 (.cons (.var 1) (.cons (.var 5) .nil))) .nil))) (.cons (.var 2) .nil)))) false
      [da (.list (f.map enc)), da (enc (cf f (f.length - 1))), da (enc (1 - cf f (f.length - 1) * cf f (f.length - 1))), da (.list (f.reverse.map enc)), .un, .un] k = some (.list ((P.nextL f (cf f (f.length - 1))).map enc), k) := by
    unfold P.nextL
    rw [List.map_map]
    refine den_comp (en := fun i => .tuple [enc (cf f i), enc (cf f (f.length - 1 - i))]) (ys := List.range (f.length - 1)) ?_ (by simp; omega) fun i hi => ⟨[da (.list (f.map enc)), da (enc (cf f (f.length - 1))), da (enc (1 - cf f (f.length - 1) * cf f (f.length - 1))), da (.list (f.reverse.map enc)), da (enc (cf f i)), da (enc (cf f (f.length - 1 - i)))], rfl, ?_⟩
    · have e1 : slHD (.list (f.map enc)) (.int (-1)) = some (.list ((f.take (f.length - 1)).map enc)) := by
        simp only [slHD, sIxD, List.length_map]
        rw [if_neg (by omega), show ((-1 : Int) + (f.length : Int)).toNat = f.length - 1 by omega, List.map_take]
      have e2 : den (Ph l) DnLib.G (.slH (.var 0) (.neg (.int 1))) false [da (.list (f.map enc)), da (enc (cf f (f.length - 1))), da (enc (1 - cf f (f.length - 1) * cf f (f.length - 1))), da (.list (f.reverse.map enc)), .un, .un] k = some (.list ((f.take (f.length - 1)).map enc), k) := by
        show ((some (PyData.list (f.map enc), k)).bind fun r => (den (Ph l) DnLib.G (.neg (.int 1)) true _ r.2).bind fun q => (slHD r.1 q.1).map fun d => (d, q.2)) = _
        simp only [Option.bind_some, neg_one, e1, Option.map_some]
      have e3 : den (Ph l) DnLib.G (.var 3) false [da (.list (f.map enc)), da (enc (cf f (f.length - 1))), da (enc (1 - cf f (f.length - 1) * cf f (f.length - 1))), da (.list (f.reverse.map enc)), .un, .un] k = some (.list (f.reverse.map enc), k) := rfl
      simp only [denI, e2, e3, Option.bind_some]
      congr 2
      rw [zipD_map, List.length_take, List.length_reverse, show min (min (f.length - 1) f.length) f.length = f.length - 1 by omega]
      refine List.map_congr_left fun i hi => ?_
      have hi' : i < f.length - 1 := by simpa using hi
      rw [P.cf_take, if_pos hi', cf_rev, if_pos (by omega)]
    · have hi' : i < f.length - 1 := by simpa using hi
      have hp : P.Ht (2 * a) (P.C (cf f (f.length - 1) * cf f (f.length - 1 - i))) := by
        rw [P.C_mulC]; exact P.Ht_up (P.Ht_mul (Ht_cf h _) (Ht_cf h _)) (by omega)
      have hd : P.Ht (3 * a + 1) (P.C (cf f i - cf f (f.length - 1) * cf f (f.length - 1 - i))) := by
        rw [P.C_sub]; exact P.Ht_up (P.Ht_sub (Ht_cf h i) hp) (by omega)
      exact we_call (wa_two (we_call (wa_two rfl (we_call (wa_two rfl rfl) (times_enc _ _ (hx _) (hx _) l k (by omega)))) (minus_enc _ _ (hx i) (Sm_C hp (by omega)) l k (by omega))) rfl) (over_enc _ _ (Sm_C hd (by omega)) (Sm_C hu (by omega)) (by grind) l k (by omega))
  exact ⟨_, ss_nx (ws_asg (env' := [da (.list (f.map enc)), da (enc (cf f (f.length - 1))), da (enc (1 - cf f (f.length - 1) * cf f (f.length - 1))), .un, .un, .un]) (we_call (wa_two w_g1 (we_call (wa_two rfl rfl) t1)) t2) rfl)
    (ss_nx (ws_asg (env' := [da (.list (f.map enc)), da (enc (cf f (f.length - 1))), da (enc (1 - cf f (f.length - 1) * cf f (f.length - 1))), ow f.reverse, .un, .un]) (d := .list (f.reverse.map enc)) (by rw [List.map_reverse]; rfl) rfl)
    (ss_rt (ws_ret hc)))⟩
def bendTest : CE := .cmp .gt (.blt .len (.cons (.var 1) .nil)) (.int 1)
def bendBody : CSs := (.cons (.asg 3 (.idx (.var 1) (.neg (.int 1)))) (.cons (.iff (.cmp .ge (.blt .abs (.cons (.idx (.var 3) (.int 0)) .nil)) (.idx (.var 3) (.int 1))) (.cons (.ret .non) .nil) .nil) (.cons (.app 2 (.var 3)) (.cons (.asg 1 (.call 33 (.cons (.var 1) (.cons (.var 3) .nil)))) .nil))))
theorem idx_endL {f : List Rat} (h : 1 ≤ f.length) : idxD (.list (f.map enc)) (.int (-1)) = some (enc (cf f (f.length - 1))) := by
  simp only [idxD, ixD, List.length_map]
  rw [if_neg (by omega), if_pos (by omega), Option.bind_some]
  have e : (-1 + (f.length : Int)).toNat = f.length - 1 := by omega
  rw [e, get_enc (by omega)]
theorem gt_one (n : Nat) : cmpD .gt (.int (n : Int)) (.int 1) = some (decide (2 ≤ n)) := by
  show some (decide ((1 : Int) < (n : Int))) = _
  congr 1
  by_cases h : 2 ≤ n
  · rw [decide_eq_true h, decide_eq_true (by omega)]
  · rw [decide_eq_false h, decide_eq_false (by omega)]
theorem bends_loop {l : Nat} {k : KS} (hl : 5 ≤ l) {s0 : Sl} : ∀ (n : Nat) (f : List Rat) (a : Nat) (o : Bool) (g : List Rat) (s3 : Sl) (M : Nat), f.length = n → cf f 0 = 1 → P.Ht a (P.mk' f) → (a + 1) * 2 ^ n ≤ 15000000 → n < M → g.length + n < 8000 →
    (P.St (P.mk' f) → ∃ (o' : Bool) (f' g' : List Rat) (a3 : Sl), whlD (fun env k => den (Ph l) DnLib.G bendTest true env k) (fun env k => denSs (Ph l) DnLib.G MW bendBody env k) M [s0, .dat o (.list (f.map enc)), ow g, s3] k = some (.nx [s0, .dat o' (.list (f'.map enc)), ow g', a3] k)) ∧
    (¬ P.St (P.mk' f) → whlD (fun env k => den (Ph l) DnLib.G bendTest true env k) (fun env k => denSs (Ph l) DnLib.G MW bendBody env k) M [s0, .dat o (.list (f.map enc)), ow g, s3] k = some (.rt .none k false)) := by
  intro n
  induction n using Nat.strongRecOn with
  | ind n ih =>
    intro f a o g s3 M hn hf ha hM hnM hg
    obtain ⟨M', rfl⟩ : ∃ M', M = M' + 1 := ⟨M - 1, by omega⟩
    have ct : den (Ph l) DnLib.G bendTest true [s0, .dat o (.list (f.map enc)), ow g, s3] k = some (.bool (decide (2 ≤ f.length)), k) :=
      we_cmp (we_blt (wa_one (d := .list (f.map enc)) (by cases o <;> rfl)) (len_lst f)) rfl (gt_one _)
    by_cases h2 : 2 ≤ f.length
    · rw [decide_eq_true h2] at ct
      have iff := P.St_iff hf h2
      have e3 : denS (Ph l) DnLib.G MW (.asg 3 (.idx (.var 1) (.neg (.int 1)))) [s0, .dat o (.list (f.map enc)), ow g, s3] k = some (.nx [s0, .dat o (.list (f.map enc)), ow g, da (enc (cf f (f.length - 1)))] k) :=
        ws_asg (we_idx (x := .list (f.map enc)) (by cases o <;> rfl) neg_one (idx_endL (by omega))) rfl
      have cc : den (Ph l) DnLib.G (.cmp .ge (.blt .abs (.cons (.idx (.var 3) (.int 0)) .nil)) (.idx (.var 3) (.int 1))) true [s0, .dat o (.list (f.map enc)), ow g, da (enc (cf f (f.length - 1)))] k = some (.bool (!decide (ab (cf f (f.length - 1)) < 1)), k) :=
        we_cmp (we_blt (d := .int (if (cf f (f.length - 1)).num < 0 then -(cf f (f.length - 1)).num else (cf f (f.length - 1)).num)) (wa_one (we_idx rfl rfl ix0)) rfl) (we_idx rfl rfl ix1) (by
          show some (decide (((cf f (f.length - 1)).den : Int) ≤ _)) = _
          rw [num_ab])
      by_cases hk : ab (cf f (f.length - 1)) < 1
      · rw [decide_eq_true hk] at cc
        have p2 : 1 ≤ 2 ^ n := Nat.two_pow_pos n
        have ha' : a ≤ 15000000 := by
          have := Nat.mul_le_mul_left (a + 1) p2
          omega
        have t := next_enc hf h2 (by omega) ha ha' hk l k hl
        have body : denSs (Ph l) DnLib.G MW bendBody [s0, .dat o (.list (f.map enc)), ow g, s3] k = some (.nx [s0, da (.list ((P.nextL f (cf f (f.length - 1))).map enc)), ow (g ++ [cf f (f.length - 1)]), da (enc (cf f (f.length - 1)))] k) :=
          ss_nx e3 (ss_nx (ws_ifF cc rfl) (ss_nx (ws_appO (f := g) (x := cf f (f.length - 1)) rfl rfl (by omega) rfl) (ss_nx (ws_asg (we_call (wa_two (d := .list (f.map enc)) (by cases o <;> rfl) rfl) t) rfl) rfl)))
        have hlen : (P.nextL f (cf f (f.length - 1))).length = n - 1 := by rw [P.nextL_len, hn]
        have hM2 : (2 * a + 1 + 1) * 2 ^ (n - 1) ≤ 15000000 := by
          have : (2 * a + 1 + 1) * 2 ^ (n - 1) = (a + 1) * 2 ^ n := by
            obtain ⟨j, rfl⟩ : ∃ j, n = j + 1 := ⟨n - 1, by omega⟩
            rw [Nat.add_sub_cancel, Nat.pow_succ, show 2 * a + 1 + 1 = (a + 1) * 2 by omega, Nat.mul_assoc, Nat.mul_comm 2]
          omega
        have r := ih (n - 1) (by omega) (P.nextL f (cf f (f.length - 1))) (2 * a + 1) false (g ++ [cf f (f.length - 1)]) (da (enc (cf f (f.length - 1)))) M' hlen (P.next_c0 hf h2 hk) (P.next_Ht ha hf (by omega) hk) hM2 (by omega) (by rw [List.length_append, List.length_singleton]; omega)
        constructor
        · intro h
          obtain ⟨o', f', g', a3, e⟩ := r.1 (iff.mp h).2
          exact ⟨o', f', g', a3, by simp only [whlD, ct, body, Option.bind_some]; exact e⟩
        · intro h
          have := r.2 fun h' => h (iff.mpr ⟨hk, h'⟩)
          simp only [whlD, ct, body, Option.bind_some]; exact this
      · rw [decide_eq_false hk] at cc
        have body : denSs (Ph l) DnLib.G MW bendBody [s0, .dat o (.list (f.map enc)), ow g, s3] k = some (.rt .none k false) :=
          ss_nx e3 (ss_rt (ws_ifT cc (ss_rt (ws_ret rfl))))
        constructor
        · intro h; exact absurd (iff.mp h).1 hk
        · intro _
          simp only [whlD, ct, body, Option.bind_some]
    · rw [decide_eq_false h2] at ct
      constructor
      · intro _
        exact ⟨o, f, g, s3, by simp only [whlD, ct, Option.bind_some]⟩
      · intro h
        exact absurd (P.St_one_list hf (by omega)) h
theorem St_scale {p : P} {a : Rat} (ha : a ≠ 0) : P.St (P.C a * p) ↔ P.St p := ⟨P.St_right, fun h => P.St_mul (P.St_C ha) h⟩
open Classical in
theorem steady_enc {b : Nat} (p : P) (hp : P.Ht b p) (hb : (2 * b + 1) * 2 ^ p.len ≤ 15000000) (hl : p.len < 7000) : At 9 35 [da (encP p)] (.bool (decide (P.St p))) := by
  have hb0 : 2 * b + 1 ≤ 15000000 := by
    have := Nat.mul_le_mul_left (2 * b + 1) (Nat.two_pow_pos p.len)
    omega
  have bends : ∀ (l : Nat) (k : KS), 8 ≤ l → p ≠ 0 → ∃ d, Ph l 34 [da (encP p)] k = some (d, k) ∧ isNone d = !decide (P.St p) := by
    intro l k hl8 h0
    obtain ⟨l', rfl⟩ : ∃ l', l = l' + 1 := ⟨l - 1, by omega⟩
    by_cases hz : p.c 0 = 0
    · refine ⟨.none, Ck.of (b := false) rfl rfl rfl (ss_rt (ws_ifT (we_cmp (d := true) (we_idx rfl rfl (idx_tup (i := 0) (P.len_pos h0))) w_g0 (by
        rw [cmp_eqE]
        show some (decide (p.c 0 = 0)) = _
        rw [decide_eq_true hz])) (ss_rt (ws_ret rfl)))), ?_⟩
      rw [decide_eq_false fun h => P.St_c0 h hz]; rfl
    · have htI : P.Ht (2 * b) (P.C (1 / p.c 0) * p) := by
        have := P.Ht_num hp 0
        exact P.Ht_up (P.Ht_mul (P.Ht_Cinv hz this.1 this.2) hp) (by omega)
      have hlen : (P.C (1 / p.c 0) * p).len = p.len := by
        have hC : P.C (1 / p.c 0) ≠ 0 := by
          intro z
          have : (P.C (1 / p.c 0)).c 0 = (0 : P).c 0 := by rw [z]
          rw [P.c_C0, P.c_zero] at this
          grind
        have h1 := (P.len_mul hC h0).1
        have h2 := P.len_C (1 / p.c 0)
        have h3 := P.len_pos hC
        omega
      have hq0 : cf (P.C (1 / p.c 0) * p).l 0 = 1 := by
        show (P.C (1 / p.c 0) * p).c 0 = 1
        rw [P.C_mul]; grind
      have stq : P.St (P.mk' (P.C (1 / p.c 0) * p).l) ↔ P.St p := by
        rw [P.mk_l]; exact St_scale (by grind)
      have hs := Sm_of hp (by omega) 0
      have led : Ph l' 32 [da (encP p)] k = some (encP (P.C (1 / p.c 0) * p), k) :=
        (At.of (n := 5) (r := encP (P.C (1 / p.c 0) * p)) rfl rfl rfl fun l k hn => ⟨_, ss_rt (ws_ret (we_call (wa_two (we_call (wa_two w_g1 (we_idx rfl rfl (idx_tup (i := 0) (P.len_pos h0)))) (over_enc 1 (p.c 0) Sm_one hs hz l k (by omega))) rfl) (scaled_enc (1 / p.c 0) p (Sm_inv hs hz) hp (by omega) (by omega) l k hn)))⟩) l' k (by omega)
      generalize P.C (1 / p.c 0) * p = q at htI hlen hq0 stq led
      have pre : ∀ R, denSs (Ph l') DnLib.G MW (.cons (.whl bendTest bendBody) (.cons (.ret (.blt .tuple (.cons (.var 2) .nil))) .nil)) [da (encP p), ow q.l, ow [], .un] k = R →
          denSs (Ph l') DnLib.G MW DnLib.c34 [da (encP p), .un, .un, .un] k = R := fun R h =>
        ss_nx (ws_ifF (we_cmp (d := false) (we_idx rfl rfl (idx_tup (i := 0) (P.len_pos h0))) w_g0 (by
          rw [cmp_eqE]
          show some (decide (p.c 0 = 0)) = _
          rw [decide_eq_false hz])) rfl)
        (ss_nx (ws_par (env' := [da (encP p), ow q.l, ow [], .un]) (ds := [(true, .list (q.l.map enc)), (true, .list [])]) (wo_two (we_blt (wa_one (we_call (wa_one rfl) led)) rfl) rfl) rfl) h)
      have run := bends_loop (l := l') (k := k) (s0 := da (encP p)) (by omega) q.len q.l (2 * b) true [] .un MW rfl hq0 (by rw [P.mk_l]; exact htI) (by rw [hlen]; exact hb) (by show q.len < 10000; omega) (by rw [List.length_nil]; omega)
      by_cases hst : P.St p
      · obtain ⟨o', f', g', a3, e⟩ := run.1 (stq.mpr hst)
        refine ⟨.tuple (g'.map enc), Ck.of (b := false) rfl rfl rfl (pre _ (ss_nx (ws_whl e) (ss_rt (ws_ret (we_blt (wa_one rfl) rfl))))), ?_⟩
        rw [decide_eq_true hst]; rfl
      · refine ⟨.none, Ck.of (b := false) rfl rfl rfl (pre _ (ss_rt (ws_whl (run.2 fun h => hst (stq.mp h))))), ?_⟩
        rw [decide_eq_false hst]; rfl
  refine At.of rfl rfl rfl fun l k hl8 => ?_
  by_cases h0 : p = 0
  · have : ¬ P.St p := fun h => P.St_c0 h (by rw [h0, P.c_zero])
    rw [decide_eq_false this]
    exact ⟨_, ss_rt (ws_ret (we_andF (we_cmp rfl tup_nil (by rw [cmp_neP, decide_eq_true h0]; rfl))))⟩
  · obtain ⟨d, e1, e2⟩ := bends l k hl8 h0
    have en : den (Ph l) DnLib.G (.notN (.call 34 (.cons (.var 0) .nil))) true [da (encP p)] k = some (.bool (decide (P.St p)), k) := by
      have ec : den (Ph l) DnLib.G (.call 34 (.cons (.var 0) .nil)) true [da (encP p)] k = some (d, k) := we_call (wa_one rfl) e1
      simp only [den] at ec ⊢
      rw [ec]
      simp only [Option.map_some, e2, Bool.not_not]
    exact ⟨_, ss_rt (ws_ret (we_andT (we_cmp rfl tup_nil (by rw [cmp_neP, decide_eq_false h0]; rfl)) en))⟩
end Dn
set_option Elab.async false
set_option linter.all false
set_option maxRecDepth 100000
/-! DnN2: what is asked of answers, walked. -/
namespace Dn
open PySem
open P (Sg)
/-- an answer, sized -/
structure Ans (B L Bb Lb : Nat) (a b : P) : Prop where
  c0 : b.c 0 = 1
  cop : ∃ e f, e * a + f * b = 1
  sa : Sg B L a
  sb : Sg Bb Lb b
theorem Ans.nf {B L Bb Lb : Nat} {a b : P} (h : Ans B L Bb Lb a b) : P.Nf a b a b := ⟨h.c0, h.cop, rfl⟩
theorem NfS.ans {Bt Bu Ba Bb Lb : Nat} {t u a b : P} (h : NfS Bt Bu Ba Bb Lb t u a b) : Ans Ba 40 Bb Lb a b := ⟨h.nf.c0, h.nf.cop, h.sa, h.sb⟩
theorem Ans.up {B L Bb Lb B' L' Bb' Lb' : Nat} {a b : P} (h : Ans B L Bb Lb a b) (h1 : B ≤ B') (h2 : L ≤ L') (h3 : Bb ≤ Bb') (h4 : Lb ≤ Lb') : Ans B' L' Bb' Lb' a b := ⟨h.c0, h.cop, h.sa.up h1 h2, h.sb.up h3 h4⟩
/-- the answers of this law: up to 2 ^ 2000 above, 2 ^ 70 below, 10 numbers below -/
abbrev An (a b : P) : Prop := Ans 2000 40 70 10 a b
theorem Ans.self {a b : P} (h : An a b) : NfS 2000 70 2000 70 10 a b a b := ⟨h.nf, by rw [h.c0]; grind, h.sa, h.sb.up (by omega) (by omega), h.sa, h.sb⟩
theorem is_answer_enc {a b : P} (h : An a b) : At 8 41 [da (pr a b)] (.bool true) := At.of rfl rfl rfl fun l k hk =>
  ⟨_, ss_nx (ws_ifF (we_orF (we_not (b := true) (we_blt (wa_one rfl) rfl)) (we_orF (we_cmp (d := false) (we_blt (wa_one rfl) rfl) rfl rfl) (we_orF (we_not (b := true) (we_call (wa_one (we_idx rfl rfl idx0)) (is_row_enc a (by have := h.sa.2; omega) l k (by omega)))) (we_not (b := true) (we_call (wa_one (we_idx rfl rfl idx1)) (is_led_enc b (by have := h.sb.2; omega) h.c0 l k (by omega))))))) rfl)
    (ss_rt (ws_ret (we_cmp (we_call (wa_two (we_idx rfl rfl idx0) (we_idx rfl rfl idx1)) (h.self.enc (by omega) (by omega) (by omega) (by omega) (by omega) (by decide) l k (by omega))) rfl (by rw [cmp_eqPr]; simp))))⟩
theorem check_answer_enc {a b : P} (h : An a b) : At 9 42 [da (pr a b)] .none := At.ofN rfl rfl rfl fun l k hk =>
  ⟨_, ss_nx (ws_ifF (we_not (b := true) (we_call (wa_one rfl) (is_answer_enc h l k hk))) rfl) rfl⟩
theorem check_answers_enc {a b a' b' : P} (h : An a b) (h' : An a' b') : At 10 288 [da (pr a b), da (pr a' b')] .none := At.ofN rfl rfl rfl fun l k hk =>
  ⟨_, ss_nx (ws_exc (we_call (wa_one rfl) (check_answer_enc h l k hk))) (ss_nx (ws_exc (we_call (wa_one rfl) (check_answer_enc h' l k hk))) rfl)⟩
/-- what a reduced quotient wants, with the bounds in use -/
abbrev NfA (t u a b : P) : Prop := NfS 10000 500 2000 70 10 t u a b
theorem NfA.enc {t u a b : P} (h : NfA t u a b) : At 7 36 [da (encP t), da (encP u)] (pr a b) := NfS.enc h (by omega) (by omega) (by omega) (by omega) (by omega) (by decide)
theorem NfA.law {t u a b : P} (h : NfA t u a b) : At 5 171 [da (encP t), da (encP u)] (pr a b) := NfS.law h (by omega) (by omega) (by omega) (by omega) (by omega) (by decide)
theorem NfA.an {t u a b : P} (h : NfA t u a b) : An a b := h.ans
theorem sum_enc {a b a' b' x y : P} (h : An a b) (h' : An a' b') (hr : NfA (a * b' + a' * b) (b * b') x y) : At 8 284 [da (pr a b), da (pr a' b')] (pr x y) := At.of rfl rfl rfl fun l k hk => by
  have t1 := multiplied_enc a b' (h.sa.ml h'.sb (by omega) (by omega) (by omega)) l k (by omega)
  have t2 := multiplied_enc a' b (h'.sa.ml h.sb (by omega) (by omega) (by omega)) l k (by omega)
  have t3 := added_enc (a * b') (a' * b) ((h.sa.mul h'.sb).ad (h'.sa.mul h.sb) (by omega) (by omega) (by omega)) l k (by omega)
  have t4 := multiplied_enc b b' (h.sb.ml h'.sb (by omega) (by omega) (by omega)) l k (by omega)
  exact ⟨_, ss_nx (ws_asg (env' := [da (pr a b), da (pr a' b'), da (encP (a * b' + a' * b))]) (we_call (wa_two (we_call (wa_two (we_idx rfl rfl idx0) (we_idx rfl rfl idx1)) t1) (we_call (wa_two (we_idx rfl rfl idx0) (we_idx rfl rfl idx1)) t2)) t3) rfl)
    (ss_rt (ws_ret (we_call (wa_two rfl (we_call (wa_two (we_idx rfl rfl idx1) (we_idx rfl rfl idx1)) t4)) (hr.enc l k (by omega)))))⟩
theorem answer_sum_enc {a b a' b' x y : P} (h : An a b) (h' : An a' b') (hr : NfA (a * b' + a' * b) (b * b') x y) : At 11 289 [da (pr a b), da (pr a' b')] (pr x y) := At.of rfl rfl rfl fun l k hk =>
  ⟨_, ss_nx (ws_exc (we_call (wa_two rfl rfl) (check_answers_enc h h' l k hk))) (ss_rt (ws_ret (we_call (wa_two rfl rfl) (sum_enc h h' hr l k (by omega)))))⟩
theorem product_enc {a b a' b' x y : P} (h : An a b) (h' : An a' b') (hr : NfA (a * a') (b * b') x y) : At 8 37 [da (pr a b), da (pr a' b')] (pr x y) := At.of rfl rfl rfl fun l k hk => by
  have t1 := multiplied_enc a a' (h.sa.ml h'.sa (by omega) (by omega) (by omega)) l k (by omega)
  have t4 := multiplied_enc b b' (h.sb.ml h'.sb (by omega) (by omega) (by omega)) l k (by omega)
  exact ⟨_, ss_rt (ws_ret (we_call (wa_two (we_call (wa_two (we_idx rfl rfl idx0) (we_idx rfl rfl idx0)) t1) (we_call (wa_two (we_idx rfl rfl idx1) (we_idx rfl rfl idx1)) t4)) (hr.enc l k (by omega))))⟩
theorem answer_product_enc {a b a' b' x y : P} (h : An a b) (h' : An a' b') (hr : NfA (a * a') (b * b') x y) : At 11 290 [da (pr a b), da (pr a' b')] (pr x y) := At.of rfl rfl rfl fun l k hk =>
  ⟨_, ss_nx (ws_exc (we_call (wa_two rfl rfl) (check_answers_enc h h' l k hk))) (ss_rt (ws_ret (we_call (wa_two rfl rfl) (product_enc h h' hr l k (by omega)))))⟩
theorem answer_over_enc {a b a' b' x y : P} (h : An a b) (h' : An a' b') (h0 : a'.c 0 ≠ 0) (hr : NfA (a * b') (b * a') x y) : At 11 291 [da (pr a b), da (pr a' b')] (pr x y) := At.of rfl rfl rfl fun l k hk => by
  have t1 := multiplied_enc a b' (h.sa.ml h'.sb (by omega) (by omega) (by omega)) l k (by omega)
  have t4 := multiplied_enc b a' (h.sb.ml h'.sa (by omega) (by omega) (by omega)) l k (by omega)
  have t0 := number_at a'.l 0 l k (by omega)
  exact ⟨_, ss_nx (ws_exc (we_call (wa_two rfl rfl) (check_answers_enc h h' l k hk)))
    (ss_nx (ws_ifF (we_cmp (d := false) (we_call (wa_two (we_idx rfl rfl idx0) rfl) t0) w_g0 (by
      rw [cmp_eqE]
      show some (decide (a'.c 0 = 0)) = _
      rw [decide_eq_false h0])) rfl)
    (ss_rt (ws_ret (we_call (wa_two (we_call (wa_two (we_idx rfl rfl idx0) (we_idx rfl rfl idx1)) t1) (we_call (wa_two (we_idx rfl rfl idx1) (we_idx rfl rfl idx0)) t4)) (hr.enc l k (by omega))))))⟩
open Classical in
theorem steady_T {b : Nat} (p : P) (hp : P.Ht b p) (hb : (2 * b + 1) * 2 ^ p.len ≤ 15000000) (hl : p.len < 7000) (h : P.St p) : At 9 35 [da (encP p)] (.bool true) := by
  have := steady_enc p hp hb hl
  rwa [decide_eq_true h] at this
open Classical in
theorem steady_F {b : Nat} (p : P) (hp : P.Ht b p) (hb : (2 * b + 1) * 2 ^ p.len ≤ 15000000) (hl : p.len < 7000) (h : ¬ P.St p) : At 9 35 [da (encP p)] (.bool false) := by
  have := steady_enc p hp hb hl
  rwa [decide_eq_false h] at this
theorem dies_out_enc {a b : P} (h : An a b) (hst : P.St b) : At 10 292 [da (pr a b)] (.bool true) := At.of rfl rfl rfl fun l k hk => by
  have t := steady_T b h.sb.1 (by
    have : 2 ^ b.len ≤ 2 ^ 10 := Nat.pow_le_pow_right (by omega) h.sb.2
    have := Nat.mul_le_mul_left (2 * 70 + 1) this
    omega) (by have := h.sb.2; omega) hst l k (by omega)
  exact ⟨_, ss_nx (ws_exc (we_call (wa_one rfl) (check_answer_enc h l k (by omega)))) (ss_rt (ws_ret (we_call (wa_one (we_idx rfl rfl idx1)) t)))⟩
theorem row_product_enc (p q : P) (h : P.Ml p q) : At 7 287 [da (encP p), da (encP q)] (encP (p * q)) := by
  have hp : p.len < 10000 := by obtain ⟨_, _, _, _, _, h1, _⟩ := h; omega
  have hq : q.len < 10000 := by obtain ⟨_, _, _, _, _, _, h1⟩ := h; omega
  have e1 : ∀ r : P, r.len < 10000 → At 5 285 [da (encP r)] .none := fun r hr => At.ofN rfl rfl rfl fun l k hk =>
    ⟨_, ss_nx (ws_ifF (we_not (b := true) (we_call (wa_one rfl) (is_row_enc r hr l k hk))) rfl) rfl⟩
  have e2 : At 6 286 [da (encP p), da (encP q)] .none := At.ofN rfl rfl rfl fun l k hk =>
    ⟨_, ss_nx (ws_exc (we_call (wa_one rfl) (e1 p hp l k hk))) (ss_nx (ws_exc (we_call (wa_one rfl) (e1 q hq l k hk))) rfl)⟩
  exact At.of rfl rfl rfl fun l k hk => ⟨_, ss_nx (ws_exc (we_call (wa_two rfl rfl) (e2 l k hk))) (ss_rt (ws_ret (we_call (wa_two rfl rfl) (multiplied_enc p q h l k (by omega)))))⟩
/-- the closing row by the law's own sums -/
theorem law_closing {n m a b : P} {B L : Nat} (hB : B ≤ 5000000) (hL : L ≤ 900) (sn : Sg B L n) (sm : Sg B L m) (sa : Sg B L a) (sb : Sg B L b) : At 4 164 [da (pr n m), da (pr a b)] (encP (m * b + n * a)) := At.of rfl rfl rfl fun l k hk =>
  ⟨_, ss_rt (ws_ret (we_call (wa_two (we_call (wa_two (we_idx rfl rfl idx1) (we_idx rfl rfl idx1)) (law_times m b (sm.ml sb (by omega) (by omega) (by omega)) l k hk)) (we_call (wa_two (we_idx rfl rfl idx0) (we_idx rfl rfl idx0)) (law_times n a (sn.ml sa (by omega) (by omega) (by omega)) l k hk)))
    (law_plus (m * b) (n * a) ((sm.mul sb).ad (sn.mul sa) (by omega) (by omega) (by omega)) l k hk)))⟩
theorem glo_less : DnLib.G 8 = some (enc (-1)) := by kernel_rfl
/-- a loop: machine N, M, helm a, b, closing row c -/
structure Loop (N M a b c : P) : Prop where
  n0 : N ≠ 0
  nc : N.c 0 = 0
  mc : M.c 0 = 1
  bc : b.c 0 = 1
  eq : M * b + N * a = c
  st : P.St c
  sN : Sg 60 20 N
  sM : Sg 60 20 M
  sa : Sg 1800 20 a
  sb : Sg 1800 20 b
  sc : Sg 60 10 c
namespace Loop
variable {N M a b c : P}
theorem cc (h : Loop N M a b c) : c.c 0 = 1 := by rw [← h.eq, P.c_add, P.c0_mul, P.c0_mul, h.mc, h.nc, h.bc]; grind
theorem check (h : Loop N M a b c) : At 8 47 [da (pr N M), da (pr a b)] .none := check_pair_enc _ _ _ _ (by have := h.sN.2; omega) (by have := h.sM.2; omega) h.n0 h.nc h.mc (by have := h.sa.2; omega) (by have := h.sb.2; omega) h.bc
theorem closing (h : Loop N M a b c) : At 6 54 [da (pr N M), da (pr a b)] (encP c) := by
  have t := closing_by_enc (B := 1800) (L := 20) (by omega) (by omega) (h.sN.up (by omega) (by omega)) (h.sM.up (by omega) (by omega)) (h.sa.up (by omega) (by omega)) (h.sb.up (by omega) (by omega))
  rwa [h.eq] at t
theorem lclosing (h : Loop N M a b c) : At 4 164 [da (pr N M), da (pr a b)] (encP c) := by
  have t := law_closing (B := 1800) (L := 20) (by omega) (by omega) (h.sN.up (by omega) (by omega)) (h.sM.up (by omega) (by omega)) (h.sa.up (by omega) (by omega)) (h.sb.up (by omega) (by omega))
  rwa [h.eq] at t
theorem closing_row (h : Loop N M a b c) : At 9 101 [da (pr N M), da (pr a b)] (encP c) := At.of rfl rfl rfl fun l k hk =>
  ⟨_, ss_nx (ws_exc (we_call (wa_two rfl rfl) (h.check l k (by omega)))) (ss_rt (ws_ret (we_call (wa_two rfl rfl) (h.closing l k (by omega)))))⟩
theorem steady (h : Loop N M a b c) : At 10 55 [da (pr N M), da (pr a b)] (.bool true) := At.of rfl rfl rfl fun l k hk => by
  have t := steady_T c h.sc.1 (by
    have : 2 ^ c.len ≤ 2 ^ 10 := Nat.pow_le_pow_right (by omega) h.sc.2
    have := Nat.mul_le_mul_left (2 * 60 + 1) this
    omega) (by have := h.sc.2; omega) h.st l k (by omega)
  exact ⟨_, ss_rt (ws_ret (we_call (wa_one (we_call (wa_two rfl rfl) (h.closing l k (by omega)))) t))⟩
theorem error (h : Loop N M a b c) {x y : P} (hn : NfA (M * b) c x y) : At 11 295 [da (pr N M), da (pr a b)] (pr x y) := by
  have e : At 8 59 [da (pr N M), da (pr a b)] (pr x y) := At.of rfl rfl rfl fun l k hk =>
    ⟨_, ss_rt (ws_ret (we_call (wa_two (we_call (wa_two (we_idx rfl rfl idx1) (we_idx rfl rfl idx1)) (multiplied_enc M b (h.sM.ml h.sb (by omega) (by omega) (by omega)) l k (by omega))) (we_call (wa_two rfl rfl) (h.closing l k (by omega)))) (hn.enc l k (by omega))))⟩
  exact At.of rfl rfl rfl fun l k hk =>
    ⟨_, ss_nx (ws_exc (we_call (wa_two rfl rfl) (h.check l k (by omega)))) (ss_nx (ws_ifF (we_not (b := true) (we_call (wa_two rfl rfl) (h.steady l k (by omega)))) rfl) (ss_rt (ws_ret (we_call (wa_two rfl rfl) (e l k (by omega))))))⟩
theorem lerror (h : Loop N M a b c) {x y : P} (hn : NfA (M * b) c x y) : At 6 208 [da (pr N M), da (pr a b)] (pr x y) := At.of rfl rfl rfl fun l k hk =>
  ⟨_, ss_rt (ws_ret (we_call (wa_two (we_call (wa_two (we_idx rfl rfl idx1) (we_idx rfl rfl idx1)) (law_times M b (h.sM.ml h.sb (by omega) (by omega) (by omega)) l k (by omega))) (we_call (wa_two rfl rfl) (h.lclosing l k (by omega)))) (hn.law l k (by omega))))⟩
theorem four (h : Loop N M a b c) {t0 t1 u0 u1 v0 v1 : P} (ht : NfA (N * a) c t0 t1) (hu : NfA (M * a) c u0 u1) (hv : NfA (N * b) c v0 v1) : At 10 294 [da (pr N M), da (pr a b)] (.tuple [pr t0 t1, pr u0 u1, pr v0 v1, pr (-t0) t1]) := by
  have e : At 8 293 [da (pr N M), da (pr a b)] (.tuple [pr t0 t1, pr u0 u1, pr v0 v1, pr (-t0) t1]) := At.of rfl rfl rfl fun l k hk => by
    have g : ∀ env, den (Ph l) DnLib.G (.glo 8) false env k = some (enc (-1), k) := fun env => by simp only [den, glo_less, Option.map_some]
    have ts := scaled_enc (-1) t0 Sm_mone ht.sa.1 (by omega) (by have := ht.sa.2; omega) l k (by omega)
    rw [show P.C (-1) * t0 = -t0 by rw [P.C_neg, P.C_one]; grind] at ts
    exact ⟨_, ss_nx (ws_unp (env' := [da (pr N M), da (pr a b), da (encP N), da (encP M), da (encP a), da (encP b), da (encP c), .un, .un]) (ds := [pr N M, pr a b, encP c]) (we_tup (wa_cons rfl (wa_two rfl (we_call (wa_two rfl rfl) (h.closing l k (by omega)))))) rfl)
      (ss_nx (ws_par (env' := [da (pr N M), da (pr a b), da (encP N), da (encP M), da (encP a), da (encP b), da (encP c), da (pr t0 t1), da (pr u0 u1)]) (wo_two (we_call (wa_two (we_call (wa_two rfl rfl) (multiplied_enc N a (h.sN.ml h.sa (by omega) (by omega) (by omega)) l k (by omega))) rfl) (ht.enc l k (by omega))) (we_call (wa_two (we_call (wa_two rfl rfl) (multiplied_enc M a (h.sM.ml h.sa (by omega) (by omega) (by omega)) l k (by omega))) rfl) (hu.enc l k (by omega)))) rfl)
      (ss_rt (ws_ret (we_tup (wa_cons rfl (wa_cons rfl (wa_two (we_call (wa_two (we_call (wa_two rfl rfl) (multiplied_enc N b (h.sN.ml h.sb (by omega) (by omega) (by omega)) l k (by omega))) rfl) (hv.enc l k (by omega))) (we_tup (wa_two (we_call (wa_two (g _) (we_idx rfl rfl idx0)) ts) (we_idx rfl rfl idx1)))))))))) ⟩
  exact At.of rfl rfl rfl fun l k hk =>
    ⟨_, ss_nx (ws_exc (we_call (wa_two rfl rfl) (h.check l k (by omega)))) (ss_rt (ws_ret (we_call (wa_two rfl rfl) (e l k (by omega)))))⟩
end Loop
end Dn
set_option Elab.async false
set_option linter.all false
set_option maxRecDepth 100000
/-! DnM20: drawn helms; loops of drawn machines. -/
namespace Dn
open PySem
open P (Sg)
def helmIn : CSs := (.cons (.asg 6 (.tup (.cons (.call 146 (.cons (.bin .sub (.callC 144 0 (.cons (.int 5) .nil)) (.int 2)) (.cons (.int 2) .nil))) (.cons (.tup (.cons (.int 1) (.cons (.int 1) .nil))) .nil)))) (.cons (.par [4, 5] (.cons (.call 152 (.cons (.var 4) (.cons (.call 155 (.cons (.var 2) (.cons (.var 6) .nil))) .nil))) (.cons (.call 154 (.cons (.var 5) (.cons (.call 155 (.cons (.var 1) (.cons (.var 6) .nil))) .nil))) .nil))) .nil))
/-- a drawn helm of a core: its closing row is steady -/
structure Helm (n m a b wd : P) : Prop where
  eq : m * b + n * a = wd
  bc : b.c 0 = 1
  st : ∃ t, t ≤ 2 ∧ Stead t wd
  sa : Sg 640 6 a
  sb : Sg 825 10 b
theorem draw_helm {l N : Nat} {k : KS} {n m : P} (hD : Drawn n m) (hk : OkK N k) (hN : N ≤ 300) (hl : 8 ≤ l) : ∃ (a b wd : P) (k' : KS), Ph l 169 [.csk, da (encP n), da (encP m)] k = some (.tuple [pr a b, encP wd], k') ∧ Helm n m a b wd ∧ OkK (N + 6) k' := by
  obtain ⟨l', rfl⟩ : ∃ l', l = l' + 1 := ⟨l - 1, by omega⟩
  have H1 : Hid 1 := ⟨P.c_C0 1, Sg.one _ _ (by omega), Mach.steady_one⟩
  obtain ⟨p, w, M, ec, _, sp, sw⟩ := hD.mach H1
  obtain ⟨c, k1, hc, e1, o1⟩ := cnt_den (l := l') (m := false) (k := k) (.cons (.lst (.cons (.int 0) (.cons (.int 1) (.cons (.int 1) (.cons (.int 2) .nil))))) .nil) [0, 1, 1, 2] (by decide) (by decide) (env := [.csk, da (encP n), da (encP m), .un, .un, .un, .un]) rfl rfl hk (by omega) (by omega)
  have hc2 : c ≤ 2 := by
    have : ∀ c ∈ [0, 1, 1, 2], c ≤ 2 := by decide
    exact this c hc
  obtain ⟨wd, k2, e2, o2, hw⟩ := draw_steady (l := l') c (by omega) o1 (by omega) (by omega)
  have swd : Sg 8 3 wd := ⟨P.Ht_up hw.ht (by omega), by have := hw.len; omega⟩
  obtain ⟨q, a, b, ea, _, hL⟩ := Least.of M.base wd
  have spw : Sg 538 6 (p * wd) := (sp.mul swd).up (by omega) (by omega)
  have sa : Sg 616 4 a := ⟨P.Ht_up (P.Ht_div (k := 6) spw.1 hD.sm.1 (by have := spw.2; have := P.len_pos M.m0; omega) ea hL.lt).1 (by omega), by have := hL.lt; have := hD.sm.2; omega⟩
  have swna : Sg 648 10 (wd - n * a) := (swd.sub (hD.sn.mul sa)).up (by omega) (by omega)
  have ebm : wd - n * a = b * m + 0 := by have := hL.eq; grind
  have sb : Sg 788 10 b := ⟨P.Ht_up (P.Ht_div (k := 10) swna.1 hD.sm.1 (by have := swna.2; have := P.len_pos M.m0; omega) ebm (by rw [P.len_zero]; exact P.len_pos M.m0)).2 (by omega), by
    by_cases hb : b = 0
    · rw [hb, P.len_zero]; omega
    · have h1 := (P.len_mul hb M.m0).1
      have h2 := swna.2
      have h3 := P.len_pos M.m0
      rw [ebm, show b * m + 0 = b * m by grind] at h2
      omega⟩
  have bc : b.c 0 = 1 := by
    have : (m * b + n * a).c 0 = wd.c 0 := by rw [hL.eq]
    rw [P.c_add, P.c0_mul, P.c0_mul, M.mc, M.nc, hw.c0] at this
    grind
  have c5 := law_helm ec M.base M.sn M.sm M.sp (swd.up (by omega) (by omega)) ea hL l' k2 (by omega)
  obtain ⟨i, k3, e3, hi, o3⟩ := tap (l := l') (top := 4) (by omega) (by omega) o2 (by omega) (by omega)
  have pre : ∀ (R : CSs) (Z : Option Res), denSs (Ph l') DnLib.G MW R [.csk, da (encP n), da (encP m), da (encP wd), da (encP a), da (encP b), .un] k2 = Z →
      denSs (Ph l') DnLib.G MW (.cons (.asg 3 (.callC 166 0 (.cons (.callC 145 0 (.cons (.lst (.cons (.int 0) (.cons (.int 1) (.cons (.int 1) (.cons (.int 2) .nil))))) .nil)) .nil))) (.cons (.unp (.cons (.one 4) (.cons (.one 5) .nil)) (.call 165 (.cons (.var 1) (.cons (.var 2) (.cons (.var 3) .nil))))) R)) [.csk, da (encP n), da (encP m), .un, .un, .un, .un] k = Z := fun R Z h =>
    ss_nx (ws_asg (env' := [.csk, da (encP n), da (encP m), da (encP wd), .un, .un, .un]) (we_callC rfl (wa_one e1) e2) rfl)
    (ss_nx (ws_unp (env' := [.csk, da (encP n), da (encP m), da (encP wd), da (encP a), da (encP b), .un]) (we_call (wa_cons rfl (wa_two rfl rfl)) c5) rfl) h)
  by_cases h0 : i = 0
  · subst h0
    obtain ⟨j, k4, e4, hj, o4⟩ := tap (l := l') (top := 5) (by omega) (by omega) o3 (by omega) (by omega)
    have fx := frac_small (i := (j : Int) - 2) (d := 2) (by omega) (by omega) (by omega)
    have h1n : (1 : Rat) ≠ 0 := by grind
    obtain ⟨em, sm⟩ := more_ok (y := 1) fx.1 fx.2 (by decide) (by decide) h1n
    generalize hmore : P.mk' [Rat.divInt ((j : Int) - 2) ((2 : Nat) : Int), 1] = more at em sm
    have sa' : Sg 640 6 (a + m * more) := (sa.add (hD.sm.mul sm)).up (by omega) (by omega)
    have sb' : Sg 825 10 (b - n * more) := (sb.sub (hD.sn.mul sm)).up (by omega) (by omega)
    have c1 := law_f ((j : Int) - 2) ((2 : Nat) : Int) (by omega) (log_small (by decide)) l' k4 (by omega)
    have c2 := law_times m more (hD.sm.ml sm (by omega) (by omega) (by omega)) l' k4 (by omega)
    have c3 := law_plus a (m * more) (sa.ad (hD.sm.mul sm) (by omega) (by omega) (by omega)) l' k4 (by omega)
    have c4 := law_times n more (hD.sn.ml sm (by omega) (by omega) (by omega)) l' k4 (by omega)
    have c6 := law_less b (n * more) (sb.ad (hD.sn.mul sm) (by omega) (by omega) (by omega)) l' k4 (by omega)
    refine ⟨a + m * more, b - n * more, wd, k4, Ck.of (b := false) rfl rfl rfl (pre _ _ (ss_nx (ws_ifT (we_cmp (d := true) (we_callC rfl (wa_one rfl) e3) rfl (cmp_eqI _ _))
      (ss_nx (ws_asg (env' := [.csk, da (encP n), da (encP m), da (encP wd), da (encP a), da (encP b), da (encP more)]) (by rw [em]; exact we_tup (wa_two (we_call (wa_two (we_bin (d := .int ((j : Int) - 2)) (we_callC rfl (wa_one rfl) e4) rfl rfl) rfl) c1) rfl)) rfl)
      (ss_nx (ws_par (env' := [.csk, da (encP n), da (encP m), da (encP wd), da (encP (a + m * more)), da (encP (b - n * more)), da (encP more)]) (wo_two (we_call (wa_two rfl (we_call (wa_two rfl rfl) c2)) c3) (we_call (wa_two rfl (we_call (wa_two rfl rfl) c4)) c6)) rfl) rfl)))
      (ss_rt (ws_ret (we_tup (wa_two (we_tup (wa_two rfl rfl)) rfl)))))), ⟨by rw [← hL.eq]; grind, by rw [P.c_sub, P.c0_mul, bc, M.nc]; grind, ⟨c, hc2, hw⟩, sa', sb'⟩, o4.up (by omega)⟩
  · refine ⟨a, b, wd, k3, Ck.of (b := false) rfl rfl rfl (pre _ _ (ss_nx (ws_ifF (we_cmp (d := false) (we_callC rfl (wa_one rfl) e3) rfl (by rw [cmp_eqI, decide_eq_false (by omega)])) rfl)
      (ss_rt (ws_ret (we_tup (wa_two (we_tup (wa_two rfl rfl)) rfl)))))), ⟨hL.eq, bc, ⟨c, hc2, hw⟩, sa.up (by omega) (by omega), sb.up (by omega) (by omega)⟩, o3.up (by omega)⟩
theorem Stead.st {t : Nat} {w : P} (h : Stead t w) : P.St w := by
  have := P.Bent_st h.bent
  rwa [P.mk_l] at this
/-- a hidden part's steadiness, plainly -/
theorem parts_st : ∀ h ∈ parts, P.St h := by
  intro h hh
  simp only [parts, List.mem_cons, List.mem_nil_iff, or_false] at hh
  rcases hh with rfl | rfl | rfl | rfl | rfl
  · exact P.St_one
  · exact P.St_one
  · exact P.stChk_ok 3 _ rfl (by decide +kernel)
  · exact P.stChk_ok 3 _ rfl (by decide +kernel)
  · exact P.stChk_ok 4 _ rfl (by decide +kernel)
theorem draw_hidden' {l N : Nat} {k : KS} {n m : P} (hD : Drawn n m) (hk : OkK N k) (hN : N ≤ 400) (hl : 5 ≤ l) : ∃ (h : P) (k' : KS), Ph l 296 [.csk, da (encP n), da (encP m)] k = some (pr (n * h) (m * h), k') ∧ Hid h ∧ P.St h ∧ OkK (N + 1) k' := by
  obtain ⟨l', rfl⟩ : ∃ l', l = l' + 1 := ⟨l - 1, by omega⟩
  obtain ⟨x, k1, hx, e1, o1⟩ := draw_of (l := l') (parts.map encP) (by decide) (by decide) hk (by omega) (by omega)
  obtain ⟨h, hh, rfl⟩ := List.mem_map.mp hx
  have H := parts_ok h hh
  have t1 := law_times n h (hD.sn.ml H.sg (by omega) (by omega) (by omega)) l' k1 (by omega)
  have t2 := law_times m h (hD.sm.ml H.sg (by omega) (by omega) (by omega)) l' k1 (by omega)
  exact ⟨h, k1, Ck.of (b := false) rfl rfl rfl (ss_nx (ws_asg (env' := [.csk, da (encP n), da (encP m), da (encP h)]) (we_callC rfl (wa_one parts_den) e1) rfl) (ss_rt (ws_ret (we_tup (wa_two (we_call (wa_two rfl rfl) t1) (we_call (wa_two rfl rfl) t2)))))), H, parts_st h hh, o1⟩
end Dn
set_option Elab.async false
set_option linter.all false
set_option maxRecDepth 100000
/-! DnM21: law k81 in plain Lean (printed by gen81.py). -/
namespace Dn
open PySem
open P (Sg Nf)
theorem nf_sizes {t c x y : P} {Bt Lt Bc Lc By : Nat} (hn : Nf t c x y) (hc : c.c 0 = 1) (st : Sg Bt Lt t) (sc : Sg Bc Lc c) (sy : P.Ht By y) : Sg (Bt + By + (Lt + Lc) * (Bc + 2)) Lt x ∧ y.len ≤ Lc := by
  have hc0 := c0_ne hc
  have hy0 := hn.ne
  obtain ⟨g, e1, e2⟩ := hn.dvd
  have hg0 : g ≠ 0 := by intro z; apply hc0; rw [e1, z]; grind
  have ly : y.len ≤ c.len := by
    have := P.len_mul hg0 hy0
    rw [← e1] at this
    have := P.len_pos hg0
    omega
  have lc := P.len_pos hc0
  have l1 := P.len_mul_le t y
  refine ⟨⟨(P.Ht_div (k := Lt + Lc) (P.Ht_mul st.1 sy) sc.1 (by have := st.2; have := sc.2; omega) (show t * y = x * c + 0 by have := hn.eq; grind) (by rw [P.len_zero]; exact lc)).2, ?_⟩, by have := sc.2; omega⟩
  by_cases hx : x = 0
  · rw [hx, P.len_zero]; omega
  · have l2 := (P.len_mul hx hc0).1
    rw [← hn.eq] at l2
    have := st.2
    omega
theorem nf_st {t c x y : P} {Bc Lc : Nat} (hn : Nf t c x y) (hc : c.c 0 = 1) (hst : P.St c) (sc : Sg Bc Lc c) : Sg (Bc + Lc) Lc y ∧ P.St y := by
  obtain ⟨g, e1, e2⟩ := hn.dvd
  have hc0 := c0_ne hc
  have hy0 := hn.ne
  have hg0 : g ≠ 0 := by intro z; apply hc0; rw [e1, z]; grind
  have ly : y.len ≤ c.len := by
    have := P.len_mul hg0 hy0
    rw [← e1] at this
    have := P.len_pos hg0
    omega
  have gc : g.c 0 = 1 := by
    have : c.c 0 = g.c 0 * y.c 0 := by rw [e1, P.c0_mul]
    rw [hc, hn.c0] at this
    grind
  have e3 : c = y * g := by rw [e1]; grind
  refine ⟨⟨P.Ht_up (P.St_div hst e3 hn.c0 gc sc.1) (by have := sc.2; omega), by have := sc.2; omega⟩, ?_⟩
  rw [e3] at hst
  exact P.St_left hst
theorem nf_sr {t c x y : P} {Bc Lc : Nat} (hn : Nf t c x y) (hc : c.c 0 = 1) (hst : P.Sr c) (sc : Sg Bc Lc c) : Sg (Bc + 3 * Lc) Lc y := by
  obtain ⟨g, e1, e2⟩ := hn.dvd
  have hc0 := c0_ne hc
  have hy0 := hn.ne
  have hg0 : g ≠ 0 := by intro z; apply hc0; rw [e1, z]; grind
  have ly : y.len ≤ c.len := by
    have := P.len_mul hg0 hy0
    rw [← e1] at this
    have := P.len_pos hg0
    omega
  have gc : g.c 0 = 1 := by
    have : c.c 0 = g.c 0 * y.c 0 := by rw [e1, P.c0_mul]
    rw [hc, hn.c0] at this
    grind
  have e3 : c = y * g := by rw [e1]; grind
  exact ⟨P.Ht_up (P.Sr_div hst e3 hn.c0 gc sc.1) (by have := sc.2; omega), by have := sc.2; omega⟩
def lessP : P := P.C (-1)
theorem lessP_eq : lessP = -1 := by unfold lessP; rw [P.C_neg, P.C_one]
theorem lessP_l : lessP.l = [-1] := trim_id _ (.inr (by show (-1 : Rat) ≠ 0; grind))
theorem less_lit {Φ : Phi} {m : Bool} {env : DEnv} {k : KS} : den Φ DnLib.G (.tup (.cons (.tup (.cons (.tup (.cons (.bin .sub (.int 0) (.int 1)) (.cons (.int 1) .nil))) .nil)) (.cons (.tup (.cons (.tup (.cons (.int 1) (.cons (.int 1) .nil))) .nil)) .nil))) m env k = some (pr lessP 1, k) := by
  have e1 : encP 1 = .tuple [enc 1] := by show encR (1 : P).l = _; rw [P.l_one]; rfl
  have e2 : encP lessP = .tuple [enc (-1)] := by show encR lessP.l = _; rw [lessP_l]; rfl
  show _ = some (PyData.tuple [encP lessP, encP 1], k)
  rw [e1, e2]; rfl
theorem one_lit {Φ : Phi} {m : Bool} {env : DEnv} {k : KS} : den Φ DnLib.G (.tup (.cons (.tup (.cons (.tup (.cons (.int 1) (.cons (.int 1) .nil))) .nil)) (.cons (.tup (.cons (.tup (.cons (.int 1) (.cons (.int 1) .nil))) .nil)) .nil))) m env k = some (pr 1 1, k) := by
  have e1 : encP 1 = .tuple [enc 1] := by show encR (1 : P).l = _; rw [P.l_one]; rfl
  show _ = some (PyData.tuple [encP 1, encP 1], k)
  rw [e1]; rfl
def third : P := P.mk' [1, 1/3]
theorem third_lit {Φ : Phi} {m : Bool} {env : DEnv} {k : KS} : den Φ DnLib.G (.tup (.cons (.tup (.cons (.int 1) (.cons (.int 1) .nil))) (.cons (.tup (.cons (.int 1) (.cons (.int 3) .nil))) .nil))) m env k = some (encP third, k) := by
  have e2 : encP third = .tuple [enc 1, enc (1/3)] := by
    show encR (trim [1, 1/3]) = _
    rw [trim_id _ (.inr (by show (1/3 : Rat) ≠ 0; grind))]; rfl
  rw [e2]
  kernel_rfl
theorem third_ok : third.c 0 = 1 ∧ Sg 2 2 third ∧ P.St third := ⟨P.c_mk _ _, ⟨P.Ht_of (by decide +kernel), P.len_mk _⟩, P.stChk_ok 3 _ rfl (by decide +kernel)⟩
theorem comp_none {f : PyData → KS → Option (Option PyData × KS)} {k : KS} : ∀ ys : List PyData, (∀ y ∈ ys, f y k = some (none, k)) → compD f ys k = some ([], k)
  | [], _ => rfl
  | y :: ys, h => by
    simp only [compD, h y (List.mem_cons_self ..), Option.bind_some, comp_none ys fun z hz => h z (List.mem_cons_of_mem _ hz), Option.map_some]
/-- a comprehension whose test never holds -/
theorem den_compF {Φ : Phi} {p : Pat} {own : List Nat} {it : CI} {c e : CE} {m : Bool} {env : DEnv} {k : KS} {ys : List PyData} (hi : denI Φ DnLib.G it env k = some (ys, k)) (hl : ys.length < 10000)
    (h : ∀ y ∈ ys, ∃ env1, bindP p y (wipeD env own) = some env1 ∧ den Φ DnLib.G c true env1 k = some (.bool false, k)) : den Φ DnLib.G (.comp p own it c e) m env k = some (.list [], k) := by
  simp only [den, hi, Option.bind_some, len_ok hl, Bool.not_true, Bool.false_eq_true, if_false]
  rw [comp_none ys fun y hy => ?_]
  · rfl
  · obtain ⟨env1, h1, h2⟩ := h y hy
    simp only [h1, Option.bind_some, h2]
theorem cmp_nilL : cmpD .eq (.list []) (.list []) = some true := by decide +kernel
theorem k81_plain (ns : List Int) : ∃ k', denSs PL DnLib.G MW DnLib.law_k81.body (.scr ns :: List.replicate 18 .un) (0, 0, 0) = some (.rt (.bool true) k' false) := by
  obtain ⟨k0, d0, o0⟩ := PL_mk ns 0 (by omega)
  obtain ⟨n, m, Z, Q, k1, d1, hD, o1⟩ := draw_machine (l := 41) o0 (by omega) (by omega)
  obtain ⟨h, k2, d2, hH, hS, o2⟩ := draw_hidden' (l := 41) hD o1 (by omega) (by omega)
  obtain ⟨a, b, wd, k3, d3, hh, o3⟩ := draw_helm (l := 41) hD o2 (by omega) (by omega)
  obtain ⟨i, k4, d4, hi, o4⟩ := tap (l := 41) (top := 3) (by omega) (by omega) o3 (by omega) (by omega)
  obtain ⟨p, w, Mm, ec, _, _, _⟩ := hD.mach hH
  obtain ⟨s0, s2, s3⟩ := third_ok
  obtain ⟨tt, htt, hw⟩ := hh.st
  have swd : Sg 8 3 wd := ⟨P.Ht_up hw.ht (by omega), by have := hw.len; omega⟩
  -- the loop
  have sN : Sg 26 9 (n * h) := (hD.sn.mul hH.sg).up (by omega) (by omega)
  have sM : Sg 15 7 (m * h) := (hD.sm.mul hH.sg).up (by omega) (by omega)
  have hpair : ∃ A B c : P, Loop (n * h) (m * h) A B c ∧ Sg 642 7 A ∧ Sg 827 11 B ∧ Sg 13 6 c ∧ (m * B + n * A) * h = c ∧ denS PL DnLib.G MW (.iff (.cmp .eq (.callC 144 1 (.cons (.int 3) .nil)) (.int 0)) (.cons (.asg 7 (.tup (.cons (.call 155 (.cons (.idx (.var 7) (.int 0)) (.cons (.tup (.cons (.tup (.cons (.int 1) (.cons (.int 1) .nil))) (.cons (.tup (.cons (.int 1) (.cons (.int 3) .nil))) .nil))) .nil))) (.cons (.call 155 (.cons (.idx (.var 7) (.int 1)) (.cons (.tup (.cons (.tup (.cons (.int 1) (.cons (.int 1) .nil))) (.cons (.tup (.cons (.int 1) (.cons (.int 3) .nil))) .nil))) .nil))) .nil)))) .nil) .nil) ((fun (N M : P) => [.scr ns, .csk, da (encP n), da (encP m), da (.list (Z.map enc)), da (.list (Q.map enc)), da (pr N M), da (pr a b), .un, .un, .un, .un, .un, .un, .un, .un, .un, .un, .un]) (n * h) (m * h)) k3 = some (.nx ((fun (N M A B : P) => [.scr ns, .csk, da (encP n), da (encP m), da (.list (Z.map enc)), da (.list (Q.map enc)), da (pr N M), da (pr A B), .un, .un, .un, .un, .un, .un, .un, .un, .un, .un, .un]) (n * h) (m * h) A B) k4) := by
    by_cases h0 : i = 0
    · subst h0
      have sA : Sg 642 7 (a * third) := (hh.sa.mul s2).up (by omega) (by omega)
      have sB : Sg 827 11 (b * third) := (hh.sb.mul s2).up (by omega) (by omega)
      have sc : Sg 13 6 (h * (wd * third)) := (hH.sg.mul (swd.mul s2)).up (by omega) (by omega)
      refine ⟨a * third, b * third, h * (wd * third), ⟨Mm.nh0, Mm.nhc, Mm.mhc, by rw [P.c0_mul, hh.bc, s0]; grind, by rw [← hh.eq]; grind, P.St_mul hS (P.St_mul hw.st s3), sN.up (by omega) (by omega), sM.up (by omega) (by omega), sA.up (by omega) (by omega), sB.up (by omega) (by omega), sc.up (by omega) (by omega)⟩, sA, sB, sc, by rw [← hh.eq]; grind, ?_⟩
      exact ws_ifT (we_cmp (d := true) (we_callC rfl (wa_one rfl) d4) rfl (cmp_eqI _ _)) (ss_nx (ws_asg (we_tup (wa_two (we_call (wa_two (we_idx rfl rfl idx0) third_lit) ((law_times a third (hh.sa.ml s2 (by omega) (by omega) (by omega))).L (by omega) (by omega))) (we_call (wa_two (we_idx rfl rfl idx1) third_lit) ((law_times b third (hh.sb.ml s2 (by omega) (by omega) (by omega))).L (by omega) (by omega))))) rfl) rfl)
    · have sc : Sg 13 6 (h * wd) := (hH.sg.mul swd).up (by omega) (by omega)
      refine ⟨a, b, h * wd, ⟨Mm.nh0, Mm.nhc, Mm.mhc, hh.bc, by rw [← hh.eq]; grind, P.St_mul hS hw.st, sN.up (by omega) (by omega), sM.up (by omega) (by omega), hh.sa.up (by omega) (by omega), hh.sb.up (by omega) (by omega), sc.up (by omega) (by omega)⟩, hh.sa.up (by omega) (by omega), hh.sb.up (by omega) (by omega), sc, by rw [← hh.eq]; grind, ?_⟩
      exact ws_ifF (we_cmp (d := false) (we_callC rfl (wa_one rfl) d4) rfl (by rw [cmp_eqI, decide_eq_false (by omega)])) rfl
  obtain ⟨A, B, c, hL, sA, sB, sc, ecore, s4⟩ := hpair
  have hcc := hL.cc
  have hst := hL.st
  have hc0 := c0_ne hcc
  have hcne : c.c 0 ≠ 0 := by rw [hcc]; grind
  have mcc := hD.mc
  obtain ⟨pp, ww, hbase⟩ : ∃ pp ww, m * ww + n * pp = 1 := ⟨p, w, Mm.base.eq⟩
  have hM0 : (m * h).c 0 = 1 := Mm.mhc
  have hm0 : m ≠ 0 := Mm.m0
  have hh0 : h ≠ 0 := Mm.h0
  have hMne : m * h ≠ 0 := P.mul_ne hm0 hh0
  have scm : Sg 25 10 (c * m) := (sc.mul hD.sm).up (by omega) (by omega)
  have scM : Sg 28 12 (c * (m * h)) := (sc.mul sM).up (by omega) (by omega)
  have srcm : P.Sr (c * m) := P.Sr_mul (P.Sr_of hst) hD.srm
  have hcm0 : (c * m).c 0 = 1 := by rw [P.c0_mul, hcc, mcc]; grind
  have hcM0 : (c * (m * h)).c 0 = 1 := by rw [P.c0_mul, hcc, hM0]; grind
  have hcmne := c0_ne hcm0
  have hcMne := c0_ne hcM0
  -- reduced quotients
  obtain ⟨e0, e1, nE⟩ := Nf.ex' (m * h * B) hcne
  obtain ⟨t0, t1, nT⟩ := Nf.ex' (n * h * A) hcne
  obtain ⟨u0, u1, nU⟩ := Nf.ex' (m * h * A) hcne
  obtain ⟨v0, v1, nV⟩ := Nf.ex' (n * h * B) hcne
  obtain ⟨y0, y1, nY⟩ := Nf.ex' (n * h * (m * h * A)) hcne
  obtain ⟨o0, o1, nO⟩ := Nf.ex' (n * B) (show (c * m).c 0 ≠ 0 by rw [hcm0]; grind)
  have stE : Sg 842 17 (m * h * B) := (sM.mul sB).up (by omega) (by omega)
  have stT : Sg 668 15 (n * h * A) := (sN.mul sA).up (by omega) (by omega)
  have stU : Sg 657 13 (m * h * A) := (sM.mul sA).up (by omega) (by omega)
  have stV : Sg 853 19 (n * h * B) := (sN.mul sB).up (by omega) (by omega)
  have stY : Sg 683 21 (n * h * (m * h * A)) := (sN.mul stU).up (by omega) (by omega)
  have stO : Sg 850 17 (n * B) := (hD.sn.mul sB).up (by omega) (by omega)
  obtain ⟨be, bE⟩ := nf_st nE hcc hst sc
  obtain ⟨bt, bT⟩ := nf_st nT hcc hst sc
  obtain ⟨bu, bU⟩ := nf_st nU hcc hst sc
  obtain ⟨bv, bV⟩ := nf_st nV hcc hst sc
  obtain ⟨by_, bY⟩ := nf_st nY hcc hst sc
  have bo := nf_sr nO hcm0 srcm scm
  have ae : Sg 1900 21 e0 := (nf_sizes nE hcc stE sc be.1).1.up (by omega) (by omega)
  have at_ : Sg 1900 21 t0 := (nf_sizes nT hcc stT sc bt.1).1.up (by omega) (by omega)
  have au : Sg 1900 21 u0 := (nf_sizes nU hcc stU sc bu.1).1.up (by omega) (by omega)
  have av : Sg 1900 21 v0 := (nf_sizes nV hcc stV sc bv.1).1.up (by omega) (by omega)
  have ay : Sg 1900 21 y0 := (nf_sizes nY hcc stY sc by_.1).1.up (by omega) (by omega)
  have ao : Sg 1900 21 o0 := (nf_sizes nO hcm0 stO scm bo.1).1.up (by omega) (by omega)
  have nf : ∀ {t u x y : P} {Bt Lt Bu Lu : Nat}, Nf t u x y → u.c 0 ≠ 0 → Sg Bt Lt t → Sg Bu Lu u → Sg 1900 21 x → Sg 70 10 y → Bt ≤ 10000 → Lt ≤ 40 → Bu ≤ 500 → Lu ≤ 20 → NfA t u x y := fun h1 h2 h3 h4 h5 h6 b1 b2 b3 b4 => ⟨h1, h2, h3.up b1 b2, h4.up b3 b4, h5.up (by omega) (by omega), h6⟩
  have be' : Sg 70 10 e1 := be.up (by omega) (by omega)
  have bt' : Sg 70 10 t1 := bt.up (by omega) (by omega)
  have bu' : Sg 70 10 u1 := bu.up (by omega) (by omega)
  have bv' : Sg 70 10 v1 := bv.up (by omega) (by omega)
  have by' : Sg 70 10 y1 := by_.up (by omega) (by omega)
  have bo' : Sg 70 10 o1 := bo.up (by omega) (by omega)
  have NE := nf nE hcne stE sc ae be' (by omega) (by omega) (by omega) (by omega)
  have NT := nf nT hcne stT sc at_ bt' (by omega) (by omega) (by omega) (by omega)
  have NU := nf nU hcne stU sc au bu' (by omega) (by omega) (by omega) (by omega)
  have NV := nf nV hcne stV sc av bv' (by omega) (by omega) (by omega) (by omega)
  have s1 : Sg 0 1 1 := Sg.one 0 1 (by omega)
  have c1 : (1 : P).c 0 = 1 := P.c_C0 1
  have sl : Sg 0 1 lessP := ⟨P.Ht_C (by decide) (by decide), P.len_C _⟩
  have q1 : ∀ x : P, x.c 0 = 1 → x.c 0 ≠ 0 := fun x hx => by rw [hx]; grind
  have e10 := q1 _ nE.c0
  have t10 := q1 _ nT.c0
  have u10 := q1 _ nU.c0
  have v10 := q1 _ nV.c0
  have eq1 : m * h * B + n * h * A = c := hL.eq
  -- the minus of T
  have nTm : Nf (-(n * h * A)) c (-t0) t1 := ⟨nT.c0, by obtain ⟨x, y, hxy⟩ := nT.cop; exact ⟨-x, y, by grind⟩, by have := nT.eq; grind⟩
  have atm : Sg 1900 21 (-t0) := at_.neg
  have NTm := nf nTm hcne stT.neg sc atm bt' (by omega) (by omega) (by omega) (by omega)
  -- answers
  have anE := NE.an
  have anT := NT.an
  have anU := NU.an
  have anV := NV.an
  have an1 : An 1 1 := ⟨c1, ⟨0, 1, by grind⟩, s1.up (by omega) (by omega), s1.up (by omega) (by omega)⟩
  have anL : An lessP 1 := ⟨c1, ⟨0, 1, by grind⟩, sl.up (by omega) (by omega), s1.up (by omega) (by omega)⟩
  have anN : An (n * h) 1 := ⟨c1, ⟨0, 1, by grind⟩, sN.up (by omega) (by omega), s1.up (by omega) (by omega)⟩
  have anM : An (m * h) 1 := ⟨c1, ⟨0, 1, by grind⟩, sM.up (by omega) (by omega), s1.up (by omega) (by omega)⟩
  have anC : An n m := ⟨mcc, ⟨pp, ww, by grind⟩, hD.sn.up (by omega) (by omega), hD.sm.up (by omega) (by omega)⟩
  have anEm : An (-e0) e1 := ⟨nE.c0, by obtain ⟨x, y, hxy⟩ := nE.cop; exact ⟨-x, y, by grind⟩, ae.neg.up (by omega) (by omega), be'⟩
  -- what is computed
  have P1 : NfA (e0 * lessP) (e1 * 1) (-e0) e1 := nf ⟨nE.c0, anEm.cop, by rw [lessP_eq]; grind⟩ (by rw [show e1 * 1 = e1 by grind]; exact e10) (ae.mul sl) (be'.mul s1) ae.neg be' (by omega) (by omega) (by omega) (by omega)
  have cE : e0 * c = m * h * B * e1 := nE.eq.symm
  have cT : t0 * c = n * h * A * t1 := nT.eq.symm
  have cU : u0 * c = m * h * A * u1 := nU.eq.symm
  have cV : v0 * c = n * h * B * v1 := nV.eq.symm
  have G1 : NfA (1 * e1 + (-e0) * 1) (1 * e1) t0 t1 := nf (nT.cong hc0 (by grind)) (by rw [show 1 * e1 = e1 by grind]; exact e10) ((s1.mul be').add (ae.neg.mul s1)) (s1.mul be') at_ bt' (by omega) (by omega) (by omega) (by omega)
  have G2 : NfA (e0 * t1 + t0 * e1) (e1 * t1) 1 1 := nf ⟨c1, ⟨0, 1, by grind⟩, P.cancel hc0 (by grind)⟩ (by rw [P.c0_mul, nE.c0, nT.c0]; grind) ((ae.mul bt').add (at_.mul be')) (be'.mul bt') (s1.up (by omega) (by omega)) (s1.up (by omega) (by omega)) (by omega) (by omega) (by omega) (by omega)
  have LN : NfA (n * h) 1 (n * h) 1 := nf anN.nf (q1 _ c1) sN s1 (sN.up (by omega) (by omega)) (s1.up (by omega) (by omega)) (by omega) (by omega) (by omega) (by omega)
  have LM : NfA (m * h) 1 (m * h) 1 := nf anM.nf (q1 _ c1) sM s1 (sM.up (by omega) (by omega)) (s1.up (by omega) (by omega)) (by omega) (by omega) (by omega) (by omega)
  have LC : NfA (n * h) (m * h) n m := nf ⟨mcc, anC.cop, by grind⟩ (q1 _ hM0) sN sM (hD.sn.up (by omega) (by omega)) (hD.sm.up (by omega) (by omega)) (by omega) (by omega) (by omega) (by omega)
  have B1 : NfA (u0 * (n * h)) (u1 * 1) y0 y1 := nf (nY.cong hc0 (by grind)) (by rw [show u1 * 1 = u1 by grind]; exact u10) (au.mul sN) (bu'.mul s1) ay by' (by omega) (by omega) (by omega) (by omega)
  have B2 : NfA (t0 * (m * h)) (t1 * 1) y0 y1 := nf (nY.cong hc0 (by grind)) (by rw [show t1 * 1 = t1 by grind]; exact t10) (at_.mul sM) (bt'.mul s1) ay by' (by omega) (by omega) (by omega) (by omega)
  have B3 : NfA (e0 * n) (e1 * m) v0 v1 := nf (nV.cong hc0 (by grind)) (by rw [P.c0_mul, nE.c0, mcc]; grind) (ae.mul hD.sn) (be'.mul hD.sm) av bv' (by omega) (by omega) (by omega) (by omega)
  have LO : NfA (n * h * B) (c * (m * h)) o0 o1 := nf (nO.cong hcmne (by grind)) (q1 _ hcM0) stV scM ao bo' (by omega) (by omega) (by omega) (by omega)
  have OV : NfA (v0 * 1) (v1 * (m * h)) o0 o1 := nf (nO.cong hcmne (P.cancel hh0 (by grind))) (by rw [P.c0_mul, nV.c0, hM0]; grind) (av.mul s1) (bv'.mul sM) ao bo' (by omega) (by omega) (by omega) (by omega)
  have SL : NfA (e0 * 1 + lessP * e1) (e1 * 1) (-t0) t1 := nf (nTm.cong hc0 (by rw [lessP_eq]; grind)) (by rw [show e1 * 1 = e1 by grind]; exact e10) ((ae.mul s1).add (sl.mul be')) (be'.mul s1) atm bt' (by omega) (by omega) (by omega) (by omega)
  -- the law's own products
  have lT := (law_times (n * h) A (sN.ml sA (by omega) (by omega) (by omega))).L (k := k4) (by omega) (by omega)
  have lU := (law_times (m * h) A (sM.ml sA (by omega) (by omega) (by omega))).L (k := k4) (by omega) (by omega)
  have lV := (law_times (n * h) B (sN.ml sB (by omega) (by omega) (by omega))).L (k := k4) (by omega) (by omega)
  have lTm := (law_by (n * h * A) (-1) Sm_mone stT.1 (by omega) (by have := stT.2; omega)).L (k := k4) (by omega) (by omega)
  rw [show P.C (-1) * (n * h * A) = -(n * h * A) by rw [P.C_neg, P.C_one]; grind] at lTm
  have lcM := (law_times c (m * h) (sc.ml sM (by omega) (by omega) (by omega))).L (k := k4) (by omega) (by omega)
  have rc1 := (row_product_enc c 1 (sc.ml s1 (by omega) (by omega) (by omega))).L (k := k4) (by omega) (by omega)
  rw [show c * 1 = c by grind] at rc1
  have rMB := (row_product_enc (m * h) B (sM.ml sB (by omega) (by omega) (by omega))).L (k := k4) (by omega) (by omega)
  have le0 := (law_times e0 c (ae.ml sc (by omega) (by omega) (by omega))).L (k := k4) (by omega) (by omega)
  have le1 := (law_times e1 (m * h * B) (be'.ml stE (by omega) (by omega) (by omega))).L (k := k4) (by omega) (by omega)
  rw [show e1 * (m * h * B) = e0 * c by grind] at le1
  -- texts
  have rw_ : ∀ {Bx Lx By Ly : Nat} {x y : P}, Sg Bx Lx x → Sg By Ly y → Bx ≤ 1900 → Lx ≤ 30 → By ≤ 1900 → Ly ≤ 30 → Rp 240007 3 (pr x y) := fun h1 h2 b1 b2 b3 b4 => Rp_two (Rp_row h1 b1 b2) (Rp_row h2 b3 b4)
  have rE := rw_ ae be' (by omega) (by omega) (by omega) (by omega)
  have rT := rw_ at_ bt' (by omega) (by omega) (by omega) (by omega)
  have rU := rw_ au bu' (by omega) (by omega) (by omega) (by omega)
  have rV := rw_ av bv' (by omega) (by omega) (by omega) (by omega)
  have rTm := rw_ atm bt' (by omega) (by omega) (by omega) (by omega)
  have rY := rw_ ay by' (by omega) (by omega) (by omega) (by omega)
  have rO := rw_ ao bo' (by omega) (by omega) (by omega) (by omega)
  have r1 : Rp 240007 3 (pr 1 1) := rw_ s1 s1 (by omega) (by omega) (by omega) (by omega)
  have rc : Rp 240007 3 (encP c) := (Rp_row sc (by omega) (by omega)).up (by omega) (by omega)
  have r4 : Rp 1000000 4 (.list [pr t0 t1, pr u0 u1, pr v0 v1, pr (-t0) t1]) := (Rp_lst (c := 240007) (dp := 3) fun d hd => by
    simp only [List.mem_cons, List.mem_nil_iff, or_false] at hd
    rcases hd with rfl | rfl | rfl | rfl
    · exact rT
    · exact rU
    · exact rV
    · exact rTm).up (by simp only [List.length_cons, List.length_nil]; omega) (by omega)
  have dies : ∀ d ∈ [pr t0 t1, pr u0 u1, pr v0 v1, pr (-t0) t1, pr e0 e1], PL 292 [da d] k4 = some (.bool true, k4) := fun d hd => by
    simp only [List.mem_cons, List.mem_nil_iff, or_false] at hd
    rcases hd with rfl | rfl | rfl | rfl | rfl
    · exact (dies_out_enc anT bT).L (by omega) (by omega)
    · exact (dies_out_enc anU bU).L (by omega) (by omega)
    · exact (dies_out_enc anV bV).L (by omega) (by omega)
    · exact (dies_out_enc NTm.an bT).L (by omega) (by omega)
    · exact (dies_out_enc anE bE).L (by omega) (by omega)
  have cE' := (hL.error NE).L (k := k4) (by omega) (by omega)
  have cF := (hL.four NT NU NV).L (k := k4) (by omega) (by omega)
  have cCl := hL.lclosing.L (k := k4) (by omega) (by omega)
  have cCr := hL.closing_row.L (k := k4) (by omega) (by omega)
  have cLe := (hL.lerror NE).L (k := k4) (by omega) (by omega)
  have aT := NT.law.L (k := k4) (by omega) (by omega)
  have aU := NU.law.L (k := k4) (by omega) (by omega)
  have aV := NV.law.L (k := k4) (by omega) (by omega)
  have aTm := NTm.law.L (k := k4) (by omega) (by omega)
  have aN := LN.law.L (k := k4) (by omega) (by omega)
  have aM := LM.law.L (k := k4) (by omega) (by omega)
  have aC := LC.law.L (k := k4) (by omega) (by omega)
  have aO := LO.law.L (k := k4) (by omega) (by omega)
  have f1 := (answer_product_enc anE anL P1).L (k := k4) (by omega) (by omega)
  have f2 := (answer_sum_enc an1 anEm G1).L (k := k4) (by omega) (by omega)
  have f3 := (answer_sum_enc anE anT G2).L (k := k4) (by omega) (by omega)
  have f4 := (answer_product_enc anU anN B1).L (k := k4) (by omega) (by omega)
  have f5 := (answer_product_enc anT anM B2).L (k := k4) (by omega) (by omega)
  have f6 := (answer_product_enc anE anC B3).L (k := k4) (by omega) (by omega)
  have f7 := (answer_over_enc anV anM (q1 _ hM0) OV).L (k := k4) (by omega) (by omega)
  have f8 := (answer_sum_enc anE anL SL).L (k := k4) (by omega) (by omega)
  generalize hNN : n * h = N at *
  generalize hMM : m * h = M at *
  refine ⟨k4, ?_⟩
  refine ss_nx (ws_cask (env' := [.scr ns, .csk, .un, .un, .un, .un, .un, .un, .un, .un, .un, .un, .un, .un, .un, .un, .un, .un, .un]) rfl (wa_one rfl) rfl d0 rfl) ?_
  refine ss_nx (ws_unp (env' := [.scr ns, .csk, da (encP n), da (encP m), da (.list (Z.map enc)), da (.list (Q.map enc)), .un, .un, .un, .un, .un, .un, .un, .un, .un, .un, .un, .un, .un]) (we_callC rfl rfl d1) rfl) ?_
  refine ss_nx (ws_par (env' := [.scr ns, .csk, da (encP n), da (encP m), da (.list (Z.map enc)), da (.list (Q.map enc)), da (pr N M), da (pr a b), .un, .un, .un, .un, .un, .un, .un, .un, .un, .un, .un]) (wo_two (we_callC rfl (wa_two rfl rfl) d2) (we_idx (we_callC rfl (wa_two rfl rfl) d3) rfl rfl)) rfl) ?_
  refine ss_nx s4 ?_
  refine ss_nx (ws_par (env' := [.scr ns, .csk, da (encP n), da (encP m), da (.list (Z.map enc)), da (.list (Q.map enc)), da (pr N M), da (pr A B), da (pr e0 e1), da (.tuple [pr t0 t1, pr u0 u1, pr v0 v1, pr (-t0) t1]), da (pr 1 1), .un, .un, .un, .un, .un, .un, .un, .un]) (wo_cons (we_call (wa_two rfl rfl) cE') (wo_two (we_call (wa_two rfl rfl) cF) one_lit)) rfl) ?_
  refine ss_nx (ws_par (env' := [.scr ns, .csk, da (encP n), da (encP m), da (.list (Z.map enc)), da (.list (Q.map enc)), da (pr N M), da (pr A B), da (pr e0 e1), da (.tuple [pr t0 t1, pr u0 u1, pr v0 v1, pr (-t0) t1]), da (pr 1 1), da (pr lessP 1), da (encP c), .un, .un, .un, .un, .un, .un]) (wo_two less_lit (we_call (wa_two rfl rfl) cCl)) rfl) ?_
  refine ss_nx (ws_asg (env' := [.scr ns, .csk, da (encP n), da (encP m), da (.list (Z.map enc)), da (.list (Q.map enc)), da (pr N M), da (pr A B), da (pr e0 e1), da (.tuple [pr t0 t1, pr u0 u1, pr v0 v1, pr (-t0) t1]), da (pr 1 1), da (pr lessP 1), da (encP c), .dat true (.list [pr t0 t1, pr u0 u1]), .un, .un, .un, .un, .un]) (we_lst (wa_two (we_call (wa_two (we_call (wa_two (we_idx rfl rfl idx0) (we_idx rfl rfl idx0)) lT) rfl) aT) (we_call (wa_two (we_call (wa_two (we_idx rfl rfl idx1) (we_idx rfl rfl idx0)) lU) rfl) aU))) rfl) ?_
  refine ss_nx (ws_asg (env' := [.scr ns, .csk, da (encP n), da (encP m), da (.list (Z.map enc)), da (.list (Q.map enc)), da (pr N M), da (pr A B), da (pr e0 e1), da (.tuple [pr t0 t1, pr u0 u1, pr v0 v1, pr (-t0) t1]), da (pr 1 1), da (pr lessP 1), da (encP c), .dat true (.list [pr t0 t1, pr u0 u1, pr v0 v1]), .un, .un, .un, .un, .un]) (we_bin rfl (we_lst (wa_one (we_call (wa_two (we_call (wa_two (we_idx rfl rfl idx0) (we_idx rfl rfl idx1)) lV) rfl) aV))) rfl) rfl) ?_
  refine ss_nx (ws_asg (env' := [.scr ns, .csk, da (encP n), da (encP m), da (.list (Z.map enc)), da (.list (Q.map enc)), da (pr N M), da (pr A B), da (pr e0 e1), da (.tuple [pr t0 t1, pr u0 u1, pr v0 v1, pr (-t0) t1]), da (pr 1 1), da (pr lessP 1), da (encP c), .dat true (.list [pr t0 t1, pr u0 u1, pr v0 v1, pr (-t0) t1]), .un, .un, .un, .un, .un]) (we_bin rfl (we_lst (wa_one (we_call (wa_two (we_call (wa_two (we_call (wa_two (we_idx rfl rfl idx0) (we_idx rfl rfl idx0)) lT) (d2 := enc (-1)) rfl) lTm) rfl) aTm))) rfl) rfl) ?_
  refine ss_nx (ws_ifF (we_reprNe r4 (by omega) (by omega) (we_blt (wa_one rfl) rfl) rfl) rfl) ?_
  refine ss_nx (ws_ifF (we_reprNe (Rp_list2 rE rc) (by omega) (by omega) (we_lst (wa_two rfl (we_call (wa_two rfl rfl) cCr))) (we_lst (wa_two (we_call (wa_two rfl rfl) cLe) rfl))) rfl) ?_
  refine ss_nx (ws_asg (env' := [.scr ns, .csk, da (encP n), da (encP m), da (.list (Z.map enc)), da (.list (Q.map enc)), da (pr N M), da (pr A B), da (pr e0 e1), da (.tuple [pr t0 t1, pr u0 u1, pr v0 v1, pr (-t0) t1]), da (pr 1 1), da (pr lessP 1), da (encP c), .dat true (.list [pr t0 t1, pr u0 u1, pr v0 v1, pr (-t0) t1]), da (pr t0 t1), .un, .un, .un, .un]) (we_call (wa_two rfl (we_call (wa_two rfl rfl) f1)) f2) rfl) ?_
  refine ss_nx (ws_ifF (we_reprNe (Rp_list2 r1 rT) (by omega) (by omega) (we_lst (wa_two (we_call (wa_two rfl (we_idx rfl rfl rfl)) f3) rfl)) (we_lst (wa_two rfl (we_idx rfl rfl rfl)))) rfl) ?_
  refine ss_nx (ws_asg (env' := [.scr ns, .csk, da (encP n), da (encP m), da (.list (Z.map enc)), da (.list (Q.map enc)), da (pr N M), da (pr A B), da (pr e0 e1), da (.tuple [pr t0 t1, pr u0 u1, pr v0 v1, pr (-t0) t1]), da (pr 1 1), da (pr lessP 1), da (encP c), .dat true (.list [pr t0 t1, pr u0 u1, pr v0 v1, pr (-t0) t1]), da (pr t0 t1), da (pr y0 y1), .un, .un, .un]) (we_call (wa_two (we_idx rfl rfl rfl) (we_call (wa_two (we_idx rfl rfl idx0) unit_lit) aN)) f4) rfl) ?_
  refine ss_nx (ws_ifF (we_reprNe rY (by omega) (by omega) (we_call (wa_two (we_idx rfl rfl rfl) (we_call (wa_two (we_idx rfl rfl idx1) unit_lit) aM)) f5) rfl) rfl) ?_
  refine ss_nx (ws_ifF (we_reprNe rV (by omega) (by omega) (we_call (wa_two rfl (we_call (wa_two (we_idx rfl rfl idx0) (we_idx rfl rfl idx1)) aC)) f6) (we_idx rfl rfl rfl)) rfl) ?_
  refine ss_nx (ws_asg (env' := [.scr ns, .csk, da (encP n), da (encP m), da (.list (Z.map enc)), da (.list (Q.map enc)), da (pr N M), da (pr A B), da (pr e0 e1), da (.tuple [pr t0 t1, pr u0 u1, pr v0 v1, pr (-t0) t1]), da (pr 1 1), da (pr lessP 1), da (encP c), .dat true (.list [pr t0 t1, pr u0 u1, pr v0 v1, pr (-t0) t1]), da (pr t0 t1), da (pr y0 y1), da (pr o0 o1), .un, .un]) (we_call (wa_two (we_call (wa_two (we_idx rfl rfl idx0) (we_idx rfl rfl idx1)) lV) (we_call (wa_two rfl (we_idx rfl rfl idx1)) lcM)) aO) rfl) ?_
  refine ss_nx (ws_ifF (we_reprNe rO (by omega) (by omega) (we_call (wa_two (we_idx rfl rfl rfl) (we_call (wa_two (we_idx rfl rfl idx1) unit_lit) aM)) f7) rfl) rfl) ?_
  refine ss_nx (ws_asg (env' := [.scr ns, .csk, da (encP n), da (encP m), da (.list (Z.map enc)), da (.list (Q.map enc)), da (pr N M), da (pr A B), da (pr e0 e1), da (.tuple [pr t0 t1, pr u0 u1, pr v0 v1, pr (-t0) t1]), da (pr 1 1), da (pr lessP 1), da (encP c), .dat true (.list [pr t0 t1, pr u0 u1, pr v0 v1, pr (-t0) t1]), da (pr t0 t1), da (pr y0 y1), da (pr o0 o1), da (encP (e0 * c)), .un]) (we_call (wa_two (we_idx rfl rfl idx0) (we_call (wa_two rfl unit_lit) rc1)) le0) rfl) ?_
  refine ss_nx (ws_ifF (we_cmp (d := false) rfl (we_call (wa_two (we_idx rfl rfl idx1) (we_call (wa_two (we_idx rfl rfl idx1) (we_idx rfl rfl idx1)) rMB)) le1) (by rw [cmp_neP, decide_eq_true rfl]; rfl)) rfl) ?_
  refine ss_nx (ws_ifF (we_reprNe rTm (by omega) (by omega) (we_call (wa_two rfl rfl) f8) (we_idx rfl rfl rfl)) rfl) ?_
  refine ss_rt (ws_ret (we_cmp (den_compF (ys := [pr t0 t1, pr u0 u1, pr v0 v1, pr (-t0) t1, pr e0 e1]) rfl (by simp) fun d hd => ⟨_, rfl, ?_⟩) rfl cmp_nilL))
  have := dies d hd
  have ed : den PL DnLib.G (.call 292 (.cons (.var 18) .nil)) true (([.scr ns, .csk, da (encP n), da (encP m), da (.list (Z.map enc)), da (.list (Q.map enc)), da (pr N M), da (pr A B), da (pr e0 e1), da (.tuple [pr t0 t1, pr u0 u1, pr v0 v1, pr (-t0) t1]), da (pr 1 1), da (pr lessP 1), da (encP c), .dat true (.list [pr t0 t1, pr u0 u1, pr v0 v1, pr (-t0) t1]), da (pr t0 t1), da (pr y0 y1), da (pr o0 o1), da (encP (e0 * c)), .un]).set 18 (da d)) k4 = some (.bool true, k4) := we_call (wa_one rfl) this
  show (den PL DnLib.G (.call 292 (.cons (.var 18) .nil)) true (([.scr ns, .csk, da (encP n), da (encP m), da (.list (Z.map enc)), da (.list (Q.map enc)), da (pr N M), da (pr A B), da (pr e0 e1), da (.tuple [pr t0 t1, pr u0 u1, pr v0 v1, pr (-t0) t1]), da (pr 1 1), da (pr lessP 1), da (encP c), .dat true (.list [pr t0 t1, pr u0 u1, pr v0 v1, pr (-t0) t1]), da (pr t0 t1), da (pr y0 y1), da (pr o0 o1), da (encP (e0 * c)), .un]).set 18 (da d)) k4).bind _ = _
  rw [ed]; rfl
theorem k81_hlaw (ns : List Int) : ∃ k', runFn PL DnLib.G MW ⟨19, 1, DnLib.law_k81.body⟩ [.scr ns] (0, 0, 0) = some (.bool true, k') := by
  obtain ⟨k', h⟩ := k81_plain ns
  refine ⟨k', ?_⟩
  unfold runFn
  refine (if_pos rfl).trans ?_
  show (denSs PL DnLib.G MW DnLib.law_k81.body (.scr ns :: List.replicate 18 .un) (0, 0, 0)).bind _ = _
  rw [h]
  rfl
end Dn
set_option Elab.async false
set_option linter.all false
set_option maxRecDepth 100000
set_option maxHeartbeats 0
/-! End_k81: the law's end (printed by genend.py). -/
namespace Lw_k81
open PySem PySem.W PySem.Calls PyProof.Rows
theorem hlaw (ns : List Int) (h : ns.length ≤ 63 ∧ ∀ z ∈ ns, PySem.Builtin.Int.intBits z ≤ 1048576) :
    ∃ k', Dn.runFn (fun id => if id = 9999 then (fun as k => if as.all Dn.plainSl then Dn.runMk (Dn.phi 10000 DnLib.G DnLib.T 40) DnLib.G 10000 mk.fn as k else none) else Dn.phi 10000 DnLib.G DnLib.T (40 + 1) id) DnLib.G 10000 law.fn [.scr ns] (0, 0, 0) = some (.bool true, k') := by
  exact Dn.k81_hlaw ns
end Lw_k81
open PySem PySem.W PySem.Calls PyProof.Rows
theorem PySem.Challenge.cw_allhelms_k81_whole_errors_beside_the_fou_holds : PySem.Challenge.rw_allhelms_k81_whole_errors_beside_the_fou.Holds := by
  w_on; o_law
  refine HandSHeadRun.head_imp (r := OpenLaw.row PySem.Challenge.rw_allhelms_k81_whole_errors_beside_the_fou) (q := view (OpenLaw.row PySem.Challenge.rw_allhelms_k81_whole_errors_beside_the_fou).prog [0, 101]) (H := Lw_k81.hk) (ob := Lw_k81.ob) (M := 40000) (loose := Lw_k81.lo) (d := HandSHeadRun.topDef (OpenLaw.row PySem.Challenge.rw_allhelms_k81_whole_errors_beside_the_fou).prog 101) (kwd := []) Lw_k81.ob_eq
    Lw_k81.run (by kernel_rfl) (by kernel_rfl) (by kernel_rfl) (by rfl) (by first | assumption | decide +kernel) (by decide +kernel) ⟨rfl, rfl, rfl, rfl, rfl, by decide +kernel⟩ ?hw ?hc
  case hw => w_witness2
  case hc =>
    exact Dn.law_walk (l := PySem.Challenge.rw_allhelms_k81_whole_errors_beside_the_fou) (n := 63) (m := 10000) (lv := 40) (mki := 9999) (items := Lw_k81.items) (cs := Lw_k81.cs) (mk := Lw_k81.mk) (law := Lw_k81.law) (G := DnLib.G) (T := DnLib.T)
      rfl (by decide) (by kernel_rfl) (by kernel_rfl) ⟨rfl, by decide, by decide⟩ rfl Lw_k81.hG Lw_k81.hT Lw_k81.hs Lw_k81.hc Lw_k81.hcm Lw_k81.hcl Lw_k81.hni Lw_k81.h1 Lw_k81.hlaw
