import PyProof.Rows.All
import Wide.All
import OpenK.AllK
import Wide.FinOn
import HandS.ForMost
import HandS.ForExc
import HandS.TupAny
import HandS.TupMul
import HandS.Wide
import HandS.Style
import HandS.TupLe
import HandS.IsInst
import HandS.WideBits
import HandS.Zip
import KE.KIntText
import PyProof.Rows.Digits
import Wide.Txt
import HandS.Flow
import HandS.CallSlots
import HandS.Exc
import HandS.Lambda
import HandS.Star
import HandS.Text
import HandS.Dict
import HandS.Defaults
import HandS.HeadHook4
import HandS.Head0
import HandS.Head1
import HandS.Head2
import HandS.HeadEnd
import PySem.Challenge.RW_meanclouds_k21_whole_fractions
import KE.KStateDown
section
set_option Elab.async false
set_option autoImplicit false
set_option linter.all false
set_option maxRecDepth 100000
set_option maxHeartbeats 2000000
/-! DLa: data, the small language, its evaluator (plain Lean). -/
namespace DL
open PySem

/-- data: what a value is, all the way down; `ref n`: the n-th changeable object of the store -/
inductive D where
  | non | bl (b : Bool) | int (i : Int) | str (x : List Nat) | tup (xs : List D) | lst (xs : List D) | ref (n : Nat) | fn (g : Nat) | exn (c : Nat) (arg : D) | scr (ns : List Int) | dic
  deriving Inhabited

/-- the changeable objects: lists -/
abbrev Store := List (List D)
structure Exn where
  c : Nat
  arg : D
inductive Out (α : Type) where
  | ok (a : α) (S : Store) | exc (x : Exn) (S : Store) | bad
def Out.bind {α β : Type} (o : Out α) (f : α → Store → Out β) : Out β := match o with
  | .ok a S => f a S
  | .exc x S => .exc x S
  | .bad => .bad
abbrev Env := List (Option D)
inductive OutS where
  | nx (σ : Env) (S : Store) | ret (d : D) (S : Store) | bk (σ : Env) (S : Store) | ct (σ : Env) (S : Store) | exc (x : Exn) (σ : Env) (S : Store) | bad
/-- what follows a statement -/
def OutS.andThen (o : OutS) (f : Env → Store → OutS) : OutS := match o with
  | .nx σ S => f σ S
  | o => o
/-- an expression within a statement -/
def Out.stm {α : Type} (o : Out α) (σ : Env) (f : α → Store → OutS) : OutS := match o with
  | .ok a S => f a S
  | .exc x S => .exc x σ S
  | .bad => .bad

/-! ### sizes -/
abbrev bigN : Nat := 16777216
def fits (n : Nat) : Bool := Nat.ble n bigN
def small62 (i : Int) : Bool := decide (-(2 ^ 62) ≤ i) && decide (i < 2 ^ 62)

/-! ### equality -/
mutual
def eqv : D → D → Bool
  | .non, .non => true
  | .bl a, .bl b => a == b
  | .bl a, .int j => (if a then 1 else 0) == j
  | .int i, .bl b => i == (if b then 1 else 0)
  | .int i, .int j => i == j
  | .str x, .str y => decide (x = y)
  | .lst xs, .lst ys => eqvs xs ys
  | .tup xs, .tup ys => eqvs xs ys
  | _, _ => false
def eqvs : List D → List D → Bool
  | [], [] => true
  | x :: xs, y :: ys => eqv x y && eqvs xs ys
  | _, _ => false
end
mutual
/-- plain data of at most this depth: no refs, no functions -/
def plain : Nat → D → Bool
  | _, .non => true
  | _, .bl _ => true
  | _, .int _ => true
  | _, .str x => x.all (fun c => Nat.ble (c + 1) 1114112)
  | 0, .tup _ => false
  | n + 1, .tup xs => plains n xs
  | 0, .lst _ => false
  | n + 1, .lst xs => plains n xs
  | _, .ref _ => false
  | _, .fn _ => false
  | _, .exn _ _ => false
  | _, .scr _ => false
  | _, .dic => false
def plains : Nat → List D → Bool
  | _, [] => true
  | n, x :: xs => plain n x && plains n xs
end
/-- what a ref holds, as a list -/
def deref (S : Store) : D → D
  | .ref n => (match S[n]? with | some xs => .lst xs | none => .ref n)
  | d => d

/-- a list's items -/
def lOf : D → Store → Option (List D)
  | .lst xs, _ => some xs
  | .ref n, S => S[n]?
  | _, _ => none
/-! ### operators -/
inductive Op where | add | sub | mul | fdiv | mod | pow
  deriving DecidableEq
inductive Cp where | eq | ne | lt | le | gt | ge | is | isn | inn | nin
  deriving DecidableEq
/-- so many copies -/
def rep (xs : List D) : Nat → List D
  | 0 => []
  | n + 1 => xs ++ rep xs n
def repN (xs : List Nat) : Nat → List Nat
  | 0 => []
  | n + 1 => xs ++ repN xs n
def opAdd : D → D → Store → Out D
  | .int i, .int j, S => .ok (.int (i + j)) S
  | .str x, .str y, S => if fits (x.length + y.length) then .ok (.str (x ++ y)) S else .bad
  | .tup xs, .tup ys, S => if fits (xs.length + ys.length) then .ok (.tup (xs ++ ys)) S else .bad
  | d, e, S => (match lOf d S, lOf e S with
    | some xs, some ys => if fits (xs.length + ys.length) then .ok (.lst (xs ++ ys)) S else .bad
    | _, _ => .bad)
def opSub : D → D → Store → Out D
  | .int i, .int j, S => .ok (.int (i - j)) S
  | _, _, _ => .bad
def bitsOk (n : Nat) (i : Int) : Bool := decide (i.natAbs < 2 ^ n)
def opMul : D → D → Store → Out D
  | .int i, .int j, S => if Nat.ble (i.natAbs.log2 + j.natAbs.log2) 999999 then .ok (.int (i * j)) S else .bad
  | .tup xs, .int k, S => if decide (-1000 ≤ k) && decide (k ≤ 1000) && Nat.ble xs.length 1000 then .ok (.tup (rep xs k.toNat)) S else .bad
  | .str x, .int k, S => if decide (0 ≤ k) && decide (k ≤ 10000) && Nat.ble x.length 1 then .ok (.str (repN x k.toNat)) S else .bad
  | d, .int k, S => (match lOf d S with
    | some xs => if decide (-1000 ≤ k) && decide (k ≤ 1000) && Nat.ble xs.length 1000 then .ok (.lst (rep xs k.toNat)) S else .bad
    | none => .bad)
  | _, _, _ => .bad
def opDiv : D → D → Store → Out D
  | .int i, .int j, S => if decide (j ≠ 0) && Nat.ble j.natAbs.log2 8999 then .ok (.int (i.fdiv j)) S else .bad
  | _, _, _ => .bad
def opMod : D → D → Store → Out D
  | .int i, .int j, S => if decide (j ≠ 0) then .ok (.int (i.fmod j)) S else .bad
  | _, _, _ => .bad
def opPow : D → D → Store → Out D
  | .int i, .int j, S => if decide (0 ≤ j) && decide (j ≤ 1000) && Nat.ble i.natAbs.log2 999 then .ok (.int (i ^ j.toNat)) S else .bad
  | _, _, _ => .bad
def op2 : Op → D → D → Store → Out D
  | .add => opAdd
  | .sub => opSub
  | .mul => opMul
  | .fdiv => opDiv
  | .mod => opMod
  | .pow => opPow
def ltList : List Nat → List Nat → Bool
  | [], [] => false
  | [], _ :: _ => true
  | _ :: _, [] => false
  | x :: xs, y :: ys => if x = y then ltList xs ys else decide (x < y)
def cpInt (f : Int → Int → Bool) : D → D → Store → Out Bool
  | .int i, .int j, S => .ok (f i j) S
  | _, _, _ => .bad
def cpIs : D → D → Option Bool
  | .non, .non => some true
  | .bl a, .bl b => some (a == b)
  | .non, .bl _ => none
  | .bl _, .non => some false
  | .int _, .non => some false
  | .str _, .non => some false
  | .tup _, .non => some false
  | .lst _, .non => some false
  | .ref _, .non => some false
  | .fn _, .non => some false
  | _, _ => none
def isFlat : D → Bool
  | .non | .bl _ | .int _ | .str _ => true
  | _ => false
def seqOf : D → Store → Option (List D)
  | .tup xs, _ => some xs
  | d, S => lOf d S
def elemD (x : D) : List D → Bool
  | [] => false
  | y :: ys => eqv y x || elemD x ys
def cpIn (d e : D) (S : Store) : Option Bool := match d, e with
  | .str [c], .str z => some (decide (c ∈ z))
  | d, e => (match seqOf e S with | some xs => if isFlat d && xs.all isFlat then some (elemD d xs) else none | none => none)
def ofOpt (o : Option Bool) (S : Store) : Out Bool := match o with
  | some b => .ok b S
  | none => .bad
def cpEq (d e : D) (S : Store) : Out Bool :=
  let d := deref S d
  let e := deref S e
  if plain 60 d && plain 60 e then .ok (eqv d e) S else .bad
def cmp2 : Cp → D → D → Store → Out Bool
  | .eq, d, e, S => cpEq d e S
  | .ne, d, e, S => (cpEq d e S).bind fun b S => .ok (!b) S
  | .lt, d, e, S => cpInt (fun i j => decide (i < j)) d e S
  | .le, d, e, S => cpInt (fun i j => decide (i ≤ j)) d e S
  | .gt, d, e, S => cpInt (fun i j => decide (j < i)) d e S
  | .ge, d, e, S => cpInt (fun i j => decide (j ≤ i)) d e S
  | .is, d, e, S => ofOpt (cpIs d e) S
  | .isn, d, e, S => ofOpt ((cpIs d e).map (!·)) S
  | .inn, d, e, S => ofOpt (cpIn d e S) S
  | .nin, d, e, S => ofOpt ((cpIn d e S).map (!·)) S
/-- truth -/
def truth : D → Store → Out Bool
  | .non, S => .ok false S
  | .bl b, S => .ok b S
  | .int i, S => .ok (i != 0) S
  | .str x, S => if fits x.length then .ok (!x.isEmpty) S else .bad
  | .tup xs, S => .ok (!xs.isEmpty) S
  | d, S => (match lOf d S with | some xs => .ok (!xs.isEmpty) S | none => .bad)
/-- the place that an index tells -/
def ixAt (n : Nat) (i : Int) : Option Nat := if 0 ≤ i then (if i < n then some i.toNat else none) else if -(n : Int) ≤ i then some (i + n).toNat else none
def getAt (xs : List D) (i : Int) : Option D := (ixAt xs.length i).bind fun j => xs[j]?
def item : D → D → Store → Out D
  | .tup xs, .int i, S => (match getAt xs i with | some d => .ok d S | none => .bad)
  | .scr ns, .int i, S => (match (ixAt ns.length i).bind fun j => ns[j]? with | some k => .ok (.int k) S | none => .bad)
  | .str x, .int i, S => if fits x.length then (match (ixAt x.length i).bind fun j => x[j]? with | some c => .ok (.str [c]) S | none => .bad) else .bad
  | d, .int i, S => (match (lOf d S).bind fun xs => getAt xs i with | some d => .ok d S | none => .bad)
  | _, _, _ => .bad
/-- an end of a slice -/
def clip (n d : Nat) : Option Int → Nat
  | none => d
  | some i => if i < 0 then (i + (n : Int)).toNat else min i.toNat n
def cut {α : Type} (xs : List α) (lo hi : Option Int) : List α := (xs.drop (clip xs.length 0 lo)).take (clip xs.length xs.length hi - clip xs.length 0 lo)
def slice : D → Option Int → Option Int → Store → Out D
  | .tup xs, lo, hi, S => .ok (.tup (cut xs lo hi)) S
  | .str x, lo, hi, S => if fits x.length then .ok (.str (cut x lo hi)) S else .bad
  | d, lo, hi, S => (match lOf d S with | some xs => .ok (.lst (cut xs lo hi)) S | none => .bad)
/-- x[::-1] -/
def revd : D → Store → Out D
  | .tup xs, S => .ok (.tup xs.reverse) S
  | d, S => (match lOf d S with | some xs => .ok (.lst xs.reverse) S | none => .bad)

/-! ### built-ins -/
inductive Ty where | non | bool | int | str | tup | lst | dict
  deriving DecidableEq
def tyIs : D → Ty → Bool
  | .non, .non => true
  | .bl _, .bool => true
  | .bl _, .int => true
  | .int _, .int => true
  | .str _, .str => true
  | .tup _, .tup => true
  | .lst _, .lst => true
  | .ref _, .lst => true
  | .dic, .dict => true
  | _, _ => false
inductive Bi where
  | abs | all | any | divmod | int | str | isi (ts : List Ty) | len | list | max | min | tuple | repr | bool | minl
def digitsN (fuel n : Nat) (acc : List Nat) : List Nat := match fuel with
  | 0 => acc
  | k + 1 => if n / 10 = 0 then (48 + n % 10) :: acc else digitsN k (n / 10) ((48 + n % 10) :: acc)
/-- the text of an integer -/
def intText (i : Int) : List Nat := if i < 0 then 45 :: digitsN (i.natAbs.log2 + 1) i.natAbs [] else digitsN (i.natAbs.log2 + 1) i.natAbs []
def boolsOf : List D → Option (List Bool)
  | [] => some []
  | .bl b :: ds => (boolsOf ds).map (b :: ·)
  | _ :: _ => none
def lenOf : D → Store → Option Nat
  | .tup xs, _ => some xs.length
  | .scr ns, _ => some ns.length
  | .str x, _ => if fits x.length then some x.length else none
  | d, S => (lOf d S).map (·.length)
def on1 (f : D → Store → Out D) : List D → Store → Out D
  | [d], S => f d S
  | _, _ => .bad
def on2 (f : D → D → Store → Out D) : List D → Store → Out D
  | [d, e], S => f d e S
  | _, _ => .bad
def absD : D → Store → Out D
  | .int i, S => .ok (.int (if i < 0 then -i else i)) S
  | _, _ => .bad
def allD (d : D) (S : Store) : Out D := match (lOf d S).bind boolsOf with
  | some bs => .ok (.bl (bs.all id)) S
  | none => .bad
def anyD (d : D) (S : Store) : Out D := match (lOf d S).bind boolsOf with
  | some bs => .ok (.bl (bs.any id)) S
  | none => .bad
def divmodD : D → D → Store → Out D
  | .int i, .int j, S => if decide (0 < j) && decide (j < 1073741824) then .ok (.tup [.int (i / j), .int (i % j)]) S else .bad
  | _, _, _ => .bad
def digVal (x : List Nat) : Nat := x.foldl (fun a c => a * 10 + (c - 48)) 0
/-- the worth of a text of digits -/
def intOf (x : List Nat) : Option Nat := if x.all (fun c => Nat.ble 48 c && Nat.ble c 57) && !x.isEmpty && Nat.ble x.length 4300 then some (digVal x) else none
def intD : D → Store → Out D
  | .str x, S => (match intOf x with | some n => .ok (.int n) S | none => .bad)
  | .int i, S => .ok (.int i) S
  | .bl k, S => .ok (.int (if k then 1 else 0)) S
  | _, _ => .bad
def boolD : D → Store → Out D
  | .int i, S => .ok (.bl (i != 0)) S
  | .bl k, S => .ok (.bl k) S
  | _, _ => .bad
def strD : D → Store → Out D
  | .int i, S => if Nat.ble i.natAbs.log2 1919 then .ok (.str (intText i)) S else .bad
  | .str x, S => .ok (.str x) S
  | _, _ => .bad
def isD (ts : List Ty) : D → Store → Out D
  | .fn _, _ => .bad
  | .scr _, _ => .bad
  | .exn _ _, _ => .bad
  | d, S => .ok (.bl (ts.any fun t => tyIs d t)) S
def lenD (d : D) (S : Store) : Out D := match lenOf d S with
  | some n => .ok (.int n) S
  | none => .bad
def listD (d : D) (S : Store) : Out D := match seqOf d S with
  | some xs => .ok (.lst xs) S
  | none => .bad
def tupleD (d : D) (S : Store) : Out D := match seqOf d S with
  | some xs => .ok (.tup xs) S
  | none => .bad
def maxD : D → D → Store → Out D
  | .int i, .int j, S => .ok (.int (if j > i then j else i)) S
  | _, _, _ => .bad
def minD : D → D → Store → Out D
  | .int i, .int j, S => .ok (.int (if j < i then j else i)) S
  | _, _, _ => .bad
def intsOf : List D → Option (List Int)
  | [] => some []
  | .int i :: ds => (intsOf ds).map (i :: ·)
  | _ :: _ => none
/-- the least one -/
def leastI : Int → List Int → Int
  | m, [] => m
  | m, i :: is => leastI (if i < m then i else m) is
def minlD (d : D) (S : Store) : Out D := match (lOf d S).bind intsOf with
  | some (i :: is) => .ok (.int (leastI i is)) S
  | _ => .bad
def bi : Bi → List D → Store → Out D
  | .abs => on1 absD
  | .all => on1 allD
  | .any => on1 anyD
  | .divmod => on2 divmodD
  | .int => on1 intD
  | .bool => on1 boolD
  | .str => on1 strD
  | .isi ts => on1 (isD ts)
  | .len => on1 lenD
  | .list => on1 listD
  | .tuple => on1 tupleD
  | .max => on2 maxD
  | .min => on2 minD
  | .minl => on1 minlD
  | .repr => fun _ _ => .bad

/-! ### the language -/
/-- methods of built-in types -/
inductive Mt where | join | split | zfill
mutual
/-- targets -/
inductive Tg where
  | nm (i : Nat)
  | tp (ts : List Tg)
  | sub (o i : E)
inductive E where
  | slot (i : Nat)
  | star (e : E)
  | con (d : D)
  | gcon (k : Nat)
  | tup (es : List E)
  | lst (es : List E)
  | new (es : List E)
  | dict0
  | bin (o : Op) (a b : E)
  | neg (a : E)
  | cmp (o : Cp) (a b : E)
  | chain (o p : Cp) (a b c : E)
  | notE (a : E)
  | ite (t : T) (a b : E)
  | and (a b : E)
  | or (a b : E)
  | idx (a i : E)
  | slc (a : E) (lo hi : Option E)
  | rev (a : E)
  | call (g : Nat) (es : List E)
  | bi (b : Bi) (es : List E)
  | mth (m : Mt) (o : E) (es : List E)
  | join (o e : E)
  | comp (tg : Tg) (it : I) (c : Option T) (e : E) (own : List Nat)
inductive T where
  | not (t : T)
  | and (t u : T)
  | or (t u : T)
  | cmp (o : Cp) (a b : E)
  | chain (o p : Cp) (a b c : E)
  | val (e : E)
inductive I where
  | seq (e : E)
  | rng1 (a : E)
  | rng2 (a b : E)
  | rng3 (a b c : E)
  | zip (a b : E)
  | enum (a : E)
end
inductive St where
  | pass
  | cont
  | brk
  | ret (e : E)
  | retN
  | asg (tg : Tg) (e : E)
  | app (o e : E)
  | exp (e : E)
  | ite (t : T) (a b : List St)
  | wh (t : T) (b : List St)
  | for_ (tg : Tg) (it : I) (b : List St)
  | never

/-! ### the evaluator -/
mutual
def asg : Tg → D → Env → Option Env
  | .nm i, d, σ => some (σ.set i (some d))
  | .tp ts, .tup ds, σ => asgs ts ds σ
  | _, _, _ => none
def asgs : List Tg → List D → Env → Option Env
  | [], [], σ => some σ
  | t :: ts, d :: ds, σ => (asg t d σ).bind (asgs ts ds)
  | _, _, _ => none
end
/-- the slots forgotten -/
def wipeD (σ : Env) : List Nat → Env
  | [] => σ
  | v :: vs => (wipeD σ vs).set v none
def joinL (sep : List Nat) : List (List Nat) → List Nat
  | [] => []
  | [x] => x
  | x :: xs => x ++ sep ++ joinL sep xs
def strsOf : List D → Option (List (List Nat))
  | [] => some []
  | .str x :: ds => (strsOf ds).map (x :: ·)
  | _ :: _ => none
/-- split at one sign -/
def splitL (c : Nat) : List Nat → List Nat → List (List Nat)
  | [], acc => [acc.reverse]
  | d :: ds, acc => if d = c then acc.reverse :: splitL c ds [] else splitL c ds (d :: acc)
def sumLen : List (List Nat) → Nat
  | [] => 0
  | x :: xs => x.length + 1 + sumLen xs
def mth (m : Mt) (o : D) (ds : List D) (S : Store) : Out D := match m, o, ds with
  | .join, .str sep, [d] => (match (seqOf d S).bind strsOf with | some ts => if Nat.ble sep.length 1 && Nat.ble (sumLen ts) 16000000 then .ok (.str (joinL sep ts)) S else .bad | none => .bad)
  | .split, .str x, [.str [c]] => if Nat.ble (x.length + 2) bigN then .ok (.lst ((splitL c x []).map .str)) S else .bad
  | .zfill, .str x, [.int n] => .bad
  | _, _, _ => .bad
abbrev Cl := Nat → List D → Store → Out D
/-- the items that a comprehension makes -/
def compGo (tg : Tg) (test : Env → Store → Out Bool) (elt : Env → Store → Out D) (σ : Env) : List D → List D → Store → Out D
  | [], acc, S => .ok (.lst acc.reverse) S
  | d :: ds, acc, S => match asg tg d σ with
    | none => .bad
    | some σ2 => (match test σ2 S with
      | .ok true S1 => (match elt σ2 S1 with
        | .ok e S2 => if Nat.ble (acc.length + 1) bigN then compGo tg test elt σ ds (e :: acc) S2 else .bad
        | _ => .bad)
      | .ok false S1 => compGo tg test elt σ ds acc S1
      | _ => .bad)
def rangeD (lo c : Int) : Nat → List D
  | 0 => []
  | n + 1 => .int lo :: rangeD (lo + c) c n
def zipD : List D → List D → List D
  | x :: xs, y :: ys => .tup [x, y] :: zipD xs ys
  | _, _ => []
def enumD (i : Int) : List D → List D
  | [] => []
  | x :: xs => .tup [.int i, x] :: enumD (i + 1) xs
def charsD : List Nat → List D
  | [] => []
  | c :: cs => .str [c] :: charsD cs
def walk : D → Store → Option (List D)
  | .tup xs, _ => some xs
  | .lst xs, _ => some xs
  | .str x, _ => some (charsD x)
  | _, _ => none
def listOf : D → Option (List D)
  | .lst xs => some xs
  | _ => none
def zipOf : D → D → Option (List D)
  | .lst xs, .lst ys => some (zipD xs ys)
  | .tup xs, .tup ys => some (zipD xs ys)
  | _, _ => none
def oItems (o : Option (List D)) (S : Store) : Out (List D) := match o with
  | some xs => .ok xs S
  | none => .bad
def rng2 : D → D → Store → Out (List D)
  | .int i, .int j, S => if small62 i && small62 j then .ok (rangeD i 1 (j - i).toNat) S else .bad
  | _, _, _ => .bad
def rng3 : D → D → D → Store → Out (List D)
  | .int i, .int j, .int c, S => if decide (c ≠ 0) && decide (c.natAbs < 1073741824) && Builtin.Range.small i j c && decide (0 ≤ Builtin.Range.rangeSize i j c) then .ok (rangeD i c (Builtin.Range.rangeSize i j c).toNat) S else .bad
  | _, _, _, _ => .bad
section
variable (cl : Cl) (gc : List D)
mutual
def evE : E → Env → Store → Out D
  | .slot i, σ, S => (match σ[i]? with | some (some d) => .ok d S | _ => .bad)
  | .star _, _, _ => .bad
  | .con d, _, S => .ok d S
  | .gcon k, _, S => (match gc[k]? with | some d => .ok d S | none => .bad)
  | .tup es, σ, S => (evEs es σ S).bind fun ds S => if fits ds.length then .ok (.tup ds) S else .bad
  | .lst es, σ, S => (evEs es σ S).bind fun ds S => if fits ds.length then .ok (.lst ds) S else .bad
  | .dict0, _, S => .ok .dic S
  | .new es, σ, S => (evEs es σ S).bind fun ds S => if fits ds.length then .ok (.ref S.length) (S ++ [ds]) else .bad
  | .bin o a b, σ, S => (evE a σ S).bind fun x S => (evE b σ S).bind fun y S => op2 o x y S
  | .neg a, σ, S => (evE a σ S).bind fun x S => match x with | .int i => .ok (.int (-i)) S | _ => .bad
  | .cmp o a b, σ, S => (evE a σ S).bind fun x S => (evE b σ S).bind fun y S => (cmp2 o x y S).bind fun k S => .ok (.bl k) S
  | .chain o p a b c, σ, S => (evE a σ S).bind fun x S => (evE b σ S).bind fun y S => (cmp2 o x y S).bind fun k S => match k with | true => (evE c σ S).bind fun z S => (cmp2 p y z S).bind fun k S => .ok (.bl k) S | false => .ok (.bl false) S
  | .notE a, σ, S => (evE a σ S).bind fun x S => (truth x S).bind fun b S => .ok (.bl (!b)) S
  | .ite t a b, σ, S => (evT t σ S).bind fun c S => match c with | true => evE a σ S | false => evE b σ S
  | .and a b, σ, S => (evE a σ S).bind fun x S => (truth x S).bind fun c S => match c with | true => evE b σ S | false => .ok x S
  | .or a b, σ, S => (evE a σ S).bind fun x S => (truth x S).bind fun c S => match c with | true => .ok x S | false => evE b σ S
  | .idx a i, σ, S => (evE a σ S).bind fun x S => (evE i σ S).bind fun y S => item x y S
  | .slc a lo hi, σ, S => (evE a σ S).bind fun x S => (evO lo σ S).bind fun l S => (evO hi σ S).bind fun h S => slice x l h S
  | .rev a, σ, S => (evE a σ S).bind fun x S => revd x S
  | .call g es, σ, S => (evEs es σ S).bind fun ds S => cl g ds S
  | .bi b es, σ, S => (evEs es σ S).bind fun ds S => bi b ds S
  | .join o e, σ, S => (evE o σ S).bind fun x S => match x with | .str sep => (evE e σ S).bind fun d S => mth .join (.str sep) [d] S | _ => .bad
  | .mth m o es, σ, S => (evE o σ S).bind fun x S => match x with | .str z => (evEs es σ S).bind fun ds S => mth m (.str z) ds S | _ => .bad
  | .comp tg it c e own, σ, S => (evI it σ S).bind fun ds S => compGo tg (evC c) (evE e) (wipeD σ own) ds [] S
def evC : Option T → Env → Store → Out Bool
  | none, _, S => .ok true S
  | some t, σ, S => evT t σ S
def evO : Option E → Env → Store → Out (Option Int)
  | none, _, S => .ok none S
  | some e, σ, S => (evE e σ S).bind fun x S => match x with | .int i => .ok (some i) S | _ => .bad
def evEs : List E → Env → Store → Out (List D)
  | [], _, S => .ok [] S
  | .star e :: es, σ, S => (evE e σ S).bind fun d S => (match seqOf d S with | some xs => (evEs es σ S).bind fun ds S => .ok (xs ++ ds) S | none => .bad)
  | e :: es, σ, S => (evE e σ S).bind fun d S => (evEs es σ S).bind fun ds S => .ok (d :: ds) S
def evT : T → Env → Store → Out Bool
  | .not t, σ, S => (evT t σ S).bind fun b S => .ok (!b) S
  | .and t u, σ, S => (evT t σ S).bind fun b S => match b with | true => evT u σ S | false => .ok false S
  | .or t u, σ, S => (evT t σ S).bind fun b S => match b with | true => .ok true S | false => evT u σ S
  | .cmp o a b, σ, S => (evE a σ S).bind fun x S => (evE b σ S).bind fun y S => cmp2 o x y S
  | .chain o p a b c, σ, S => (evE a σ S).bind fun x S => (evE b σ S).bind fun y S => (cmp2 o x y S).bind fun k S => match k with | true => (evE c σ S).bind fun z S => cmp2 p y z S | false => .ok false S
  | .val e, σ, S => (evE e σ S).bind fun x S => truth x S
def evI : I → Env → Store → Out (List D)
  | .seq e, σ, S => (evE e σ S).bind fun x S => oItems (walk x S) S
  | .rng1 a, σ, S => (evE a σ S).bind fun x S => rng2 (.int 0) x S
  | .rng2 a b, σ, S => (evE a σ S).bind fun x S => (evE b σ S).bind fun y S => rng2 x y S
  | .rng3 a b c, σ, S => (evE a σ S).bind fun x S => (evE b σ S).bind fun y S => (evE c σ S).bind fun z S => rng3 x y z S
  | .zip a b, σ, S => (evE a σ S).bind fun x S => (evE b σ S).bind fun y S => oItems (zipOf x y) S
  | .enum a, σ, S => (evE a σ S).bind fun x S => oItems ((listOf x).map (enumD 0)) S
end
/-- a while loop -/
def whGo (test : Env → Store → Out Bool) (body : Env → Store → OutS) : Nat → Env → Store → OutS
  | 0, _, _ => .bad
  | n + 1, σ, S => (test σ S).stm σ fun c S => match c with
    | false => .nx σ S
    | true => match body σ S with
      | .nx σ S => whGo test body n σ S
      | .ct σ S => whGo test body n σ S
      | .bk σ S => .nx σ S
      | o => o
/-- a for loop over given items -/
def forGo (tg : Tg) (body : Env → Store → OutS) : List D → Env → Store → OutS
  | [], σ, S => .nx σ S
  | d :: ds, σ, S => match asg tg d σ with
    | none => .bad
    | some σ2 => match body σ2 S with
      | .nx σ S => forGo tg body ds σ S
      | .ct σ S => forGo tg body ds σ S
      | .bk σ S => .nx σ S
      | o => o
/-- the greatest number of turns of a while loop -/
abbrev turns : Nat := 1000000
def isRef : D → Bool
  | .ref _ => true
  | _ => false
def setIt (o i v : D) (S : Store) : Option Store := match o, i with
  | .ref n, .int k => (S[n]?).bind fun xs => (ixAt xs.length k).map fun j => S.set n (xs.set j v)
  | _, _ => none
def appIt (o v : D) (S : Store) : Option Store := match o with
  | .ref n => (S[n]?).bind fun xs => if Nat.ble (xs.length + 1) bigN then some (S.set n (xs ++ [v])) else none
  | _ => none
mutual
/-- a target of an assignment -/
def asgG : Tg → D → Env → Store → OutS
  | .nm i, d, σ, S => .nx (σ.set i (some d)) S
  | .tp ts, .tup ds, σ, S => if Nat.beq ds.length ts.length then asgsG ts ds σ S else .bad
  | .tp _, _, _, _ => .bad
  | .sub o i, v, σ, S => (evE cl gc o σ S).stm σ fun x S => (evE cl gc i σ S).stm σ fun k S => match setIt x k v S with | some S2 => .nx σ S2 | none => .bad
def asgsG : List Tg → List D → Env → Store → OutS
  | [], [], σ, S => .nx σ S
  | t :: ts, d :: ds, σ, S => (asgG t d σ S).andThen (asgsG ts ds)
  | _, _, _, _ => .bad
end
mutual
def evS : St → Env → Store → OutS
  | .pass, σ, S => .nx σ S
  | .cont, σ, S => .ct σ S
  | .brk, σ, S => .bk σ S
  | .ret e, σ, S => (evE cl gc e σ S).stm σ fun d S => .ret d S
  | .retN, _, S => .ret .non S
  | .asg tg e, σ, S => (evE cl gc e σ S).stm σ fun d S => asgG cl gc tg d σ S
  | .exp e, σ, S => (evE cl gc e σ S).stm σ fun _ S => .nx σ S
  | .app o e, σ, S => (evE cl gc o σ S).stm σ fun x S => if isRef x then (evE cl gc e σ S).stm σ fun v S => match appIt x v S with | some S2 => .nx σ S2 | none => .bad else .bad
  | .ite t a b, σ, S => (evT cl gc t σ S).stm σ fun c S => match c with | true => evB a σ S | false => evB b σ S
  | .wh t b, σ, S => whGo (evT cl gc t) (evB b) turns σ S
  | .for_ tg it b, σ, S => (evI cl gc it σ S).stm σ fun ds S => forGo tg (evB b) ds σ S
  | .never, _, _ => .bad
def evB : List St → Env → Store → OutS
  | [], σ, S => .nx σ S
  | s :: ss, σ, S => (evS s σ S).andThen (evB ss)
end
end
/-- a def -/
structure Fn where
  ar : Nat
  sl : Nat
  body : List St
def startD (n : Nat) (ds : List D) : Env := ds.map some ++ List.replicate (n - ds.length) none
mutual
def refsBelow : Nat → D → Bool
  | n, .ref m => Nat.ble (m + 1) n
  | n, .tup xs => refsBelows n xs
  | n, .lst xs => refsBelows n xs
  | n, .exn _ d => refsBelow n d
  | _, _ => true
def refsBelows : Nat → List D → Bool
  | _, [] => true
  | n, x :: xs => refsBelow n x && refsBelows n xs
end
/-- what a call left in the store is let go if nothing leads to it -/
def trim (n : Nat) (d : D) (S : Store) : Store := if Nat.beq S.length n then S else if refsBelow n d && (S.take n).all (refsBelows n) then S.take n else S
def endOf (n : Nat) : OutS → Out D
  | .nx _ S => .ok .non (trim n .non S)
  | .ret d S => .ok d (trim n d S)
  | .exc x _ S => .exc x (trim n x.arg S)
  | _ => .bad
def run (fs : List Fn) (gc : List D) : Nat → Cl
  | 0, _, _, _ => .bad
  | n + 1, g, ds, S => match fs[g]? with
    | none => .bad
    | some f => if Nat.beq ds.length f.ar then endOf S.length (evB (run fs gc n) gc f.body (startD f.sl ds) S) else .bad
end DL
end
section
set_option Elab.async false
set_option autoImplicit false
set_option linter.all false
set_option maxRecDepth 100000
set_option maxHeartbeats 2000000
/-! DLb: how data stand in the heap. -/
namespace DL
open PySem PySem.Spec PyProof.Rows L2

/-- a state's tracked part: the heap, where the changeable objects stand, what is not settled, the exceptions at hand -/
structure RS where
  H : Hp
  mu : List Addr
  Z : Addr → Prop
  nu : Addr → Option (Value × Option Addr)
/-- where the text's things stand -/
structure Glob where
  K : PySem.W.Frag
  fnA : Nat → Addr
  exA : Nat → Addr
  exF : Nat → Option Str
def txt (x : List Nat) : Str := ⟨x.toArray⟩
/-- a settled tuple -/
def Ft (G : Glob) (r : RS) (a : Addr) (vs : List V) : Prop := (Rd r.H a (.tup vs) ∧ ¬ r.Z a) ∨
  ∃ (o : Obj) (its : Array Value) (n : Nat), G.K.lookup a = some o ∧ o.cls = .type "tuple" ∧ o.data = .seq its n ∧ its.size ≤ sizeLine ∧ Vals vs its.toList
theorem Ft.sq {G : Glob} {r : RS} {a : Addr} {vs : List V} (h : Ft G r a vs) : SqT G.K r.H a vs := by
  rcases h with ⟨h, _⟩ | h
  · exact .inl h
  · exact .inr h
/-- the script -/
def Sc (G : Glob) (r : RS) (a : Addr) (vs : List V) : Prop := (Rd r.H a (.lst vs) ∧ ¬ r.Z a) ∨
  ∃ (o : Obj) (its : Array Value) (n : Nat), G.K.lookup a = some o ∧ o.cls = .type "list" ∧ o.dict = none ∧ o.data = .seq its n ∧ its.size ≤ sizeLine ∧ Vals vs its.toList
theorem Sc.sq {G : Glob} {r : RS} {a : Addr} {vs : List V} (h : Sc G r a vs) : SqL G.K r.H a vs := by
  rcases h with ⟨h, _⟩ | h
  · exact .inl h
  · exact .inr h
mutual
inductive Rep (G : Glob) (r : RS) : D → V → Prop
  | non : Rep G r .non .non
  | bl (b : Bool) : Rep G r (.bl b) (.bl b)
  | int (i : Int) : Rep G r (.int i) (.int i)
  | str (x : List Nat) : Rep G r (.str x) (.str (txt x))
  | tup {ds : List D} {a : Addr} {vs : List V} : Ft G r a vs → Reps G r ds vs → Rep G r (.tup ds) (.ref a)
  | lst {ds : List D} {a : Addr} {vs : List V} : Rd r.H a (.lst vs) → ¬ r.Z a → Reps G r ds vs → Rep G r (.lst ds) (.ref a)
  | ref {n : Nat} {a : Addr} : r.mu[n]? = some a → Rep G r (.ref n) (.ref a)
  | fn (g : Nat) : Rep G r (.fn g) (.ref (G.fnA g))
  | scr {a : Addr} {ns : List Int} : Sc G r a (ns.map V.int) → Rep G r (.scr ns) (.ref a)
  | dic {a : Addr} : r.H a = some (.dK []) → ¬ r.Z a → Rep G r .dic (.ref a)
  | exn0 {c : Nat} {arg : D} {a : Addr} {dd : Option Addr} : r.nu a = some (.ref (G.exA c), dd) → G.exF c = none → Rep G r (.exn c arg) (.ref a)
  | exn1 {c : Nat} {arg : D} {a d : Addr} {f : Str} {v : V} : r.nu a = some (.ref (G.exA c), some d) → G.exF c = some f → r.H d = some (.xd [(f, v)]) → ¬ r.Z d → Rep G r arg v → Rep G r (.exn c arg) (.ref a)
inductive Reps (G : Glob) (r : RS) : List D → List V → Prop
  | nil : Reps G r [] []
  | cons {d : D} {ds : List D} {v : V} {vs : List V} : Rep G r d v → Reps G r ds vs → Reps G r (d :: ds) (v :: vs)
end
/-- settled things stay -/
structure Grow (r r' : RS) : Prop where
  mu : ∀ (n : Nat) (a : Addr), r.mu[n]? = some a → r'.mu[n]? = some a
  frz : ∀ a o, r.H a = some o → ¬ r.Z a → r'.H a = some o ∧ ¬ r'.Z a
  nu : ∀ a p, r.nu a = some p → r'.nu a = some p
/-- .. and what is being made is left alone -/
structure Ext (r r' : RS) : Prop extends Grow r r' where
  bld : ∀ a o, r.H a = some o → r.Z a → a ∉ r.mu → r'.H a = some o ∧ r'.Z a ∧ a ∉ r'.mu
theorem Grow.refl (r : RS) : Grow r r := ⟨fun _ _ h => h, fun _ _ h z => ⟨h, z⟩, fun _ _ h => h⟩
theorem Grow.trans {a b c : RS} (x : Grow a b) (y : Grow b c) : Grow a c :=
  ⟨fun n p h => y.mu n p (x.mu n p h), fun p o h z => let ⟨h1, z1⟩ := x.frz p o h z; y.frz p o h1 z1, fun p q h => y.nu p q (x.nu p q h)⟩
theorem Ext.refl (r : RS) : Ext r r := ⟨Grow.refl r, fun _ _ h z n => ⟨h, z, n⟩⟩
theorem Ext.trans {a b c : RS} (x : Ext a b) (y : Ext b c) : Ext a c :=
  ⟨x.toGrow.trans y.toGrow, fun p o h z n => let ⟨h1, z1, n1⟩ := x.bld p o h z n; y.bld p o h1 z1 n1⟩
theorem Ft.grow {G : Glob} {r r' : RS} (e : Grow r r') {a : Addr} {vs : List V} (h : Ft G r a vs) : Ft G r' a vs := by
  rcases h with ⟨h, z⟩ | h
  · rcases h with h | ⟨o, h⟩
    · exact .inl ⟨.inl (e.frz _ _ h z).1, (e.frz _ _ h z).2⟩
    · exact .inl ⟨.inr ⟨o, (e.frz _ _ h z).1⟩, (e.frz _ _ h z).2⟩
  · exact .inr h
theorem Sc.grow {G : Glob} {r r' : RS} (e : Grow r r') {a : Addr} {vs : List V} (h : Sc G r a vs) : Sc G r' a vs := by
  rcases h with ⟨h, z⟩ | h
  · rcases h with h | ⟨o, h⟩
    · exact .inl ⟨.inl (e.frz _ _ h z).1, (e.frz _ _ h z).2⟩
    · exact .inl ⟨.inr ⟨o, (e.frz _ _ h z).1⟩, (e.frz _ _ h z).2⟩
  · exact .inr h
theorem rd_grow {r r' : RS} (e : Grow r r') {a : Addr} {u : HO} (h : Rd r.H a u) (z : ¬ r.Z a) : Rd r'.H a u ∧ ¬ r'.Z a := by
  rcases h with h | ⟨o, h⟩
  · exact ⟨.inl (e.frz _ _ h z).1, (e.frz _ _ h z).2⟩
  · exact ⟨.inr ⟨o, (e.frz _ _ h z).1⟩, (e.frz _ _ h z).2⟩
mutual
theorem Rep.grow {G : Glob} {r r' : RS} (e : Grow r r') : ∀ {d : D} {v : V}, Rep G r d v → Rep G r' d v
  | _, _, .non => .non
  | _, _, .bl b => .bl b
  | _, _, .int i => .int i
  | _, _, .str x => .str x
  | _, _, .tup h hs => .tup (h.grow e) (Reps.grow e hs)
  | _, _, .lst h z hs => .lst (rd_grow e h z).1 (rd_grow e h z).2 (Reps.grow e hs)
  | _, _, .ref h => .ref (e.mu _ _ h)
  | _, _, .fn g => .fn g
  | _, _, .scr h => .scr (h.grow e)
  | _, _, .dic h z => .dic (e.frz _ _ h z).1 (e.frz _ _ h z).2
  | _, _, .exn0 h n => .exn0 (e.nu _ _ h) n
  | _, _, .exn1 h n hd z hr => .exn1 (e.nu _ _ h) n (e.frz _ _ hd z).1 (e.frz _ _ hd z).2 (Rep.grow e hr)
theorem Reps.grow {G : Glob} {r r' : RS} (e : Grow r r') : ∀ {ds : List D} {vs : List V}, Reps G r ds vs → Reps G r' ds vs
  | _, _, .nil => .nil
  | _, _, .cons h hs => .cons (Rep.grow e h) (Reps.grow e hs)
end
theorem Rep.ext {G : Glob} {r r' : RS} {d : D} {v : V} (e : Ext r r') (h : Rep G r d v) : Rep G r' d v := h.grow e.toGrow
theorem Reps.ext {G : Glob} {r r' : RS} {ds : List D} {vs : List V} (e : Ext r r') (h : Reps G r ds vs) : Reps G r' ds vs := h.grow e.toGrow
theorem Reps.length {G : Glob} {r : RS} : ∀ {ds : List D} {vs : List V}, Reps G r ds vs → ds.length = vs.length
  | _, _, .nil => rfl
  | _, _, .cons _ t => by simp [Reps.length t]
theorem Reps.get {G : Glob} {r : RS} : ∀ {ds : List D} {vs : List V}, Reps G r ds vs → ∀ {i : Nat} {d : D}, ds[i]? = some d → ∃ v, vs[i]? = some v ∧ Rep G r d v
  | _, _, .nil, _, _, h => by simp at h
  | _, _, .cons h t, 0, _, e => by simp at e; subst e; exact ⟨_, rfl, h⟩
  | _, _, .cons _ t, i + 1, _, e => by
    obtain ⟨v, h1, h2⟩ := Reps.get t (i := i) (by simpa using e)
    exact ⟨v, by simpa using h1, h2⟩
theorem Reps.get' {G : Glob} {r : RS} : ∀ {ds : List D} {vs : List V}, Reps G r ds vs → ∀ {i : Nat} {v : V}, vs[i]? = some v → ∃ d, ds[i]? = some d ∧ Rep G r d v
  | _, _, .nil, _, _, h => by simp at h
  | _, _, .cons h t, 0, _, e => by simp at e; subst e; exact ⟨_, rfl, h⟩
  | _, _, .cons _ t, i + 1, _, e => by
    obtain ⟨v, h1, h2⟩ := Reps.get' t (i := i) (by simpa using e)
    exact ⟨v, by simpa using h1, h2⟩
theorem Reps.append {G : Glob} {r : RS} : ∀ {ds es : List D} {vs ws : List V}, Reps G r ds vs → Reps G r es ws → Reps G r (ds ++ es) (vs ++ ws)
  | _, _, _, _, .nil, h => h
  | _, _, _, _, .cons h t, s => .cons h (Reps.append t s)
theorem Reps.take {G : Glob} {r : RS} : ∀ {ds : List D} {vs : List V} (n : Nat), Reps G r ds vs → Reps G r (ds.take n) (vs.take n)
  | _, _, 0, _ => by simp; exact .nil
  | _, _, _ + 1, .nil => .nil
  | _, _, n + 1, .cons h t => .cons h (Reps.take n t)
theorem Reps.drop {G : Glob} {r : RS} : ∀ {ds : List D} {vs : List V} (n : Nat), Reps G r ds vs → Reps G r (ds.drop n) (vs.drop n)
  | _, _, 0, h => h
  | _, _, _ + 1, .nil => .nil
  | _, _, n + 1, .cons _ t => Reps.drop n t
theorem Reps.reverse {G : Glob} {r : RS} : ∀ {ds : List D} {vs : List V}, Reps G r ds vs → Reps G r ds.reverse vs.reverse
  | _, _, .nil => .nil
  | _, _, .cons h t => by simp only [List.reverse_cons]; exact (Reps.reverse t).append (.cons h .nil)
theorem Reps.set {G : Glob} {r : RS} {d : D} {v : V} (h : Rep G r d v) : ∀ {ds : List D} {vs : List V} (n : Nat), Reps G r ds vs → Reps G r (ds.set n d) (vs.set n v)
  | _, _, _, .nil => .nil
  | _, _, 0, .cons _ t => .cons h t
  | _, _, n + 1, .cons q t => .cons q (Reps.set h n t)

/-- an exception that flies -/
def RepX (G : Glob) (r : RS) (x : Exn) (cls : Value) (dd : Option Addr) : Prop := cls = .ref (G.exA x.c) ∧
  (G.exF x.c = none ∨ ∃ (f : Str) (d : Addr) (v : V), G.exF x.c = some f ∧ dd = some d ∧ r.H d = some (.xd [(f, v)]) ∧ ¬ r.Z d ∧ Rep G r x.arg v)
theorem RepX.grow {G : Glob} {r r' : RS} (e : Grow r r') {x : Exn} {cls : Value} {dd : Option Addr} (h : RepX G r x cls dd) : RepX G r' x cls dd := by
  obtain ⟨h1, h2⟩ := h
  refine ⟨h1, ?_⟩
  rcases h2 with h2 | ⟨f, d, v, a, b, c, z, q⟩
  · exact .inl h2
  · exact .inr ⟨f, d, v, a, b, (e.frz _ _ c z).1, (e.frz _ _ c z).2, q.grow e⟩
/-- the store -/
structure Rl (G : Glob) (r : RS) (S : Store) : Prop where
  len : r.mu.length = S.length
  nd : r.mu.Nodup
  inZ : ∀ a ∈ r.mu, r.Z a
  zH : ∀ a, r.Z a → r.H a ≠ none
  obj : ∀ (n : Nat) (xs : List D), S[n]? = some xs → ∃ a vs, r.mu[n]? = some a ∧ r.H a = some (.lst vs) ∧ Reps G r xs vs
/-- the slots -/
structure RSt (G : Glob) (r : RS) (σ : Env) (σV : L2.St) : Prop where
  len : σV.length = σ.length
  get : ∀ (i : Nat) (d : D), σ[i]? = some (some d) → ∃ v, σV[i]? = some (some v) ∧ Rep G r d v
theorem RSt.grow {G : Glob} {r r' : RS} (e : Grow r r') {σ : Env} {σV : L2.St} (h : RSt G r σ σV) : RSt G r' σ σV :=
  ⟨h.len, fun i d q => let ⟨v, a, b⟩ := h.get i d q; ⟨v, a, b.grow e⟩⟩
theorem RSt.ext {G : Glob} {r r' : RS} (e : Ext r r') {σ : Env} {σV : L2.St} (h : RSt G r σ σV) : RSt G r' σ σV := h.grow e.toGrow
theorem RSt.set {G : Glob} {r : RS} {σ : Env} {σV : L2.St} (h : RSt G r σ σV) {d : D} {v : V} (q : Rep G r d v) (i : Nat) : RSt G r (σ.set i (some d)) (σV.set i (some v)) := by
  refine ⟨by simpa using h.len, fun j e hj => ?_⟩
  by_cases hij : i = j
  · subst hij
    by_cases hl : i < σ.length
    · rw [List.getElem?_set_self hl] at hj
      have : d = e := by simpa using hj
      subst this
      exact ⟨v, by rw [List.getElem?_set_self (by rw [h.len]; exact hl)], q⟩
    · rw [List.getElem?_eq_none (by simpa using hl)] at hj; cases hj
  · rw [List.getElem?_set_ne hij] at hj
    obtain ⟨w, a, b⟩ := h.get j e hj
    exact ⟨w, by rw [List.getElem?_set_ne hij]; exact a, b⟩
theorem RSt.setNone {G : Glob} {r : RS} {σ : Env} {σV : L2.St} (h : RSt G r σ σV) (i : Nat) : RSt G r (σ.set i none) (σV.set i none) := by
  refine ⟨by simpa using h.len, fun j e hj => ?_⟩
  by_cases hij : i = j
  · subst hij
    by_cases hl : i < σ.length
    · rw [List.getElem?_set_self hl] at hj; cases hj
    · rw [List.getElem?_eq_none (by simpa using hl)] at hj; cases hj
  · rw [List.getElem?_set_ne hij] at hj
    obtain ⟨w, a, b⟩ := h.get j e hj
    exact ⟨w, by rw [List.getElem?_set_ne hij]; exact a, b⟩
theorem RSt.wipe {G : Glob} {r : RS} {σ : Env} {σV : L2.St} (h : RSt G r σ σV) : ∀ vs : List Nat, RSt G r (wipeD σ vs) (L2.wipe σV vs)
  | [] => h
  | v :: vs => (RSt.wipe h vs).setNone v

/-! ### new things -/
section
variable {G : Glob} {r : RS} {S : Store}
/-- a thing laid at a new place, settled -/
def RS.put (r : RS) (p : Addr) (o : HO) : RS := { r with H := upd r.H p o }
theorem Ext.put (l : Rl G r S) {p : Addr} (hp : r.H p = none) (o : HO) : Ext r (r.put p o) := by
  refine ⟨⟨fun _ _ h => h, fun a u h z => ⟨?_, z⟩, fun _ _ h => h⟩, fun a u h z n => ⟨?_, z, n⟩⟩
  · show upd r.H p o a = some u
    rw [upd_ne (ne_of_none h hp)]; exact h
  · show upd r.H p o a = some u
    rw [upd_ne (ne_of_none h hp)]; exact h
theorem Rl.noZ (l : Rl G r S) {p : Addr} (hp : r.H p = none) : ¬ r.Z p := fun z => l.zH p z hp
theorem Rl.put (l : Rl G r S) {p : Addr} (hp : r.H p = none) (o : HO) : Rl G (r.put p o) S := by
  have e := Ext.put l hp o
  refine ⟨l.len, l.nd, l.inZ, fun a z => ?_, fun n xs h => ?_⟩
  · have h := l.zH a z
    show upd r.H p o a ≠ none
    have : a ≠ p := fun q => h (by rw [q]; exact hp)
    rw [upd_ne this]; exact h
  · obtain ⟨a, vs, h1, h2, h3⟩ := l.obj n xs h
    exact ⟨a, vs, h1, by show upd r.H p o a = _; rw [upd_ne (ne_of_none h2 hp)]; exact h2, h3.ext e⟩
theorem put_at {p : Addr} {o : HO} : (r.put p o).H p = some o := upd_same
/-- a changeable list laid at a new place -/
def RS.new (r : RS) (p : Addr) (vs : List V) : RS := { r with H := upd r.H p (.lst vs), mu := r.mu ++ [p], Z := fun a => r.Z a ∨ a = p }
theorem Ext.new (l : Rl G r S) {p : Addr} (hp : r.H p = none) (vs : List V) : Ext r (r.new p vs) := by
  refine ⟨⟨fun n a h => ?_, fun a u h z => ⟨?_, fun q => ?_⟩, fun _ _ h => h⟩, fun a u h z n => ⟨?_, .inl z, ?_⟩⟩
  · show (r.mu ++ [p])[n]? = some a
    rw [List.getElem?_append_left (List.getElem?_eq_some_iff.mp h).1]; exact h
  · show upd r.H p _ a = some u
    rw [upd_ne (ne_of_none h hp)]; exact h
  · rcases q with q | q
    · exact z q
    · exact ne_of_none h hp q
  · show upd r.H p _ a = some u
    rw [upd_ne (ne_of_none h hp)]; exact h
  · show a ∉ r.mu ++ [p]
    rw [List.mem_append]
    rintro (q | q)
    · exact n q
    · exact ne_of_none h hp (by simpa using q)
theorem Rl.new (l : Rl G r S) {p : Addr} (hp : r.H p = none) {xs : List D} {vs : List V} (q : Reps G r xs vs) : Rl G (r.new p vs) (S ++ [xs]) := by
  have e := Ext.new l hp vs
  have np : p ∉ r.mu := fun m => l.zH p (l.inZ p m) hp
  refine ⟨by simp [RS.new, l.len], ?_, fun a m => ?_, fun a z => ?_, fun n ys h => ?_⟩
  · show (r.mu ++ [p]).Nodup
    rw [List.nodup_append]
    refine ⟨l.nd, by simp, fun a ha b hb => ?_⟩
    have : b = p := by simpa using hb
    subst this
    intro z; subst z; exact np ha
  · have m' : a ∈ r.mu ++ [p] := m
    rw [List.mem_append] at m'
    rcases m' with m' | m'
    · exact .inl (l.inZ a m')
    · exact .inr (by simpa using m')
  · show upd r.H p _ a ≠ none
    by_cases ha : a = p
    · subst ha; rw [upd_same]; intro q; cases q
    · rw [upd_ne ha]
      rcases z with z | z
      · exact l.zH a z
      · exact absurd z ha
  · by_cases hn : n < S.length
    · rw [List.getElem?_append_left hn] at h
      obtain ⟨a, ws, h1, h2, h3⟩ := l.obj n ys h
      refine ⟨a, ws, ?_, ?_, h3.ext e⟩
      · show (r.mu ++ [p])[n]? = some a
        rw [List.getElem?_append_left (List.getElem?_eq_some_iff.mp h1).1]; exact h1
      · show upd r.H p _ a = _
        rw [upd_ne (ne_of_none h2 hp)]; exact h2
    · have hn' : n = S.length := by
        have := (List.getElem?_eq_some_iff.mp h).1
        simp at this; omega
      subst hn'
      rw [List.getElem?_append_right (Nat.le_refl _)] at h
      have : xs = ys := by simpa using h
      subst this
      refine ⟨p, vs, ?_, upd_same, q.ext e⟩
      show (r.mu ++ [p])[S.length]? = some p
      rw [← l.len, List.getElem?_append_right (Nat.le_refl _)]; simp
/-- a changeable list is changed -/
def RS.wr (r : RS) (a : Addr) (vs : List V) : RS := { r with H := upd r.H a (.lst vs) }
theorem Ext.wr (l : Rl G r S) {a : Addr} (ha : a ∈ r.mu) (vs : List V) : Ext r (r.wr a vs) := by
  refine ⟨⟨fun _ _ h => h, fun b u h z => ⟨?_, z⟩, fun _ _ h => h⟩, fun b u h z n => ⟨?_, z, n⟩⟩
  · show upd r.H a _ b = some u
    rw [upd_ne (fun q => z (by rw [q]; exact l.inZ a ha))]; exact h
  · show upd r.H a _ b = some u
    rw [upd_ne (fun q => n (by rw [q]; exact ha))]; exact h
theorem Rl.wr (l : Rl G r S) {n : Nat} {a : Addr} (ha : r.mu[n]? = some a) {xs : List D} {vs : List V} (q : Reps G r xs vs) : Rl G (r.wr a vs) (S.set n xs) := by
  have am : a ∈ r.mu := List.mem_of_getElem? ha
  have e := Ext.wr l am vs
  refine ⟨by simpa [RS.wr] using l.len, l.nd, l.inZ, fun b z => ?_, fun m ys h => ?_⟩
  · show upd r.H a _ b ≠ none
    by_cases hb : b = a
    · subst hb; rw [upd_same]; intro q; cases q
    · rw [upd_ne hb]; exact l.zH b z
  · by_cases hm : n = m
    · subst hm
      by_cases hl : n < S.length
      · rw [List.getElem?_set_self hl] at h
        have : xs = ys := by simpa using h
        subst this
        exact ⟨a, vs, ha, upd_same, q.ext e⟩
      · rw [List.getElem?_eq_none (by simpa using hl)] at h; cases h
    · rw [List.getElem?_set_ne hm] at h
      obtain ⟨b, ws, h1, h2, h3⟩ := l.obj m ys h
      refine ⟨b, ws, h1, ?_, h3.ext e⟩
      show upd r.H a _ b = _
      rw [upd_ne fun z => ?_]
      · exact h2
      · subst z
        obtain ⟨hn', e1⟩ := List.getElem?_eq_some_iff.mp ha
        obtain ⟨hm', e2⟩ := List.getElem?_eq_some_iff.mp h1
        exact hm ((List.getElem_inj l.nd).mp (e1.trans e2.symm))
end

/-! ### what is wanted behind a step -/
/-- o's end is good: Q holds of what it gives, wherever that stands -/
def Post {α β : Type} (G : Glob) (rel : RS → α → β → Prop) (W : WX) (σV : L2.St) (r : RS) (o : Out α) (Q : β → Hp → Prop) : Prop := match o with
  | .ok a S => ∀ b r', Ext r r' → Rl G r' S → rel r' a b → Q b r'.H
  | .exc x S => ∀ cls dd r', Ext r r' → Rl G r' S → RepX G r' x cls dd → W cls dd σV r'.H
  | .bad => False
theorem Post.mono {α β : Type} {G : Glob} {rel : RS → α → β → Prop} {W : WX} {σV : L2.St} {r : RS} {o : Out α} {Q Q' : β → Hp → Prop} (h : Post G rel W σV r o Q) (q : ∀ b H, Q b H → Q' b H) : Post G rel W σV r o Q' := by
  cases o with
  | ok a S => exact fun b r' e l z => q b _ (h b r' e l z)
  | exc x S => exact h
  | bad => exact h
theorem Post.from {α β : Type} {G : Glob} {rel : RS → α → β → Prop} {W : WX} {σV : L2.St} {r r1 : RS} {o : Out α} {Q : β → Hp → Prop} (e : Ext r r1) (h : Post G rel W σV r o Q) : Post G rel W σV r1 o Q := by
  cases o with
  | ok a S => exact fun b r' e' l z => h b r' (e.trans e') l z
  | exc x S => exact fun c d r' e' l z => h c d r' (e.trans e') l z
  | bad => exact h
theorem Post.bind {α β γ δ : Type} {G : Glob} {rel : RS → α → β → Prop} {rel2 : RS → γ → δ → Prop} {W : WX} {σV : L2.St} {r : RS} {o : Out α} {f : α → Store → Out γ} {Q : δ → Hp → Prop} (h : Post G rel2 W σV r (o.bind f) Q) :
    Post G rel W σV r o fun b H1 => ∃ a S r1, r1.H = H1 ∧ Ext r r1 ∧ Rl G r1 S ∧ rel r1 a b ∧ Post G rel2 W σV r1 (f a S) Q := by
  cases o with
  | ok a S => exact fun b r' e l z => ⟨a, S, r', rfl, e, l, z, Post.from e h⟩
  | exc x S => exact h
  | bad => exact h
/-- the answer at hand -/
theorem Post.here {α β : Type} {G : Glob} {rel : RS → α → β → Prop} {W : WX} {σV : L2.St} {r : RS} {a : α} {S : Store} {Q : β → Hp → Prop} (h : Post G rel W σV r (.ok a S) Q) (l : Rl G r S) {b : β} (z : rel r a b) : Q b r.H := h b r (Ext.refl r) l z

/-! ### readings -/
def RT (_ : RS) (a b : Bool) : Prop := a = b
section
variable (G : Glob) (W : WX)
def tX {α β : Type} (rel : RS → α → β → Prop) (f : Env → Store → Out α) : L2.St → Hp → (β → Hp → Prop) → Prop := fun σV H Q =>
  ∃ σ S r, r.H = H ∧ Rl G r S ∧ RSt G r σ σV ∧ Post G rel W σV r (f σ S) Q
def tD (f : Env → Store → Out D) : TE := tX G W (Rep G) f
def tT (f : Env → Store → Out Bool) : TT := tX G W RT f
def tDs (f : Env → Store → Out (List D)) : TA := tX G W (Reps G) f
end
theorem PE.mono {X : Cx} {e : Expr} {t t' : TE} (h : PE X e t) (q : ∀ σ H Q, t' σ H Q → t σ H Q) : PE X e t' := ⟨fun pins s σ H Q I z => h.run pins s σ H Q I (q σ H Q z)⟩
theorem PT.mono {X : Cx} {e : Expr} {t t' : TT} (h : PT X e t) (q : ∀ σ H Q, t' σ H Q → t σ H Q) : PT X e t' := ⟨fun pins s σ H Q I z => h.run pins s σ H Q I (q σ H Q z)⟩
theorem PW.mono {X : Cx} {e : Expr} {t t' : TT} (h : PW X e t) (q : ∀ σ H Q, t' σ H Q → t σ H Q) : PW X e t' := ⟨fun wh pins s σ H Q I z => h.run wh pins s σ H Q I (q σ H Q z)⟩
theorem PA.mono {X : Cx} {es : List Expr} {t t' : TA} (h : PA X es t) (q : ∀ σ H Q, t' σ H Q → t σ H Q) : PA X es t' := ⟨fun pos pins s σ H Q I z => h.run pos pins s σ H Q I (q σ H Q z)⟩
theorem PS.mono {X : Cx} {st : Stmt} {t t' : TS} (h : PS X st t) (q : ∀ D σ H, t' D σ H → t D σ H) : PS X st t' := ⟨fun pins s σ H D I z => h.run pins s σ H D I (q D σ H z)⟩
theorem PSs.mono {X : Cx} {st : List Stmt} {t t' : TS} (h : PSs X st t) (q : ∀ D σ H, t' D σ H → t D σ H) : PSs X st t' := ⟨fun pins s σ H D I z => h.run pins s σ H D I (q D σ H z)⟩

/-- behind a first step: the second one's reading, and what is known -/
theorem tX.step {α β γ δ : Type} {G : Glob} {W : WX} {rel : RS → α → β → Prop} {rel2 : RS → γ → δ → Prop} {f : Env → Store → Out α} {g : Env → α → Store → Out γ} {σV : L2.St} {H : Hp} {Q : δ → Hp → Prop}
    (h : tX G W rel2 (fun σ S => (f σ S).bind (g σ)) σV H Q) {R : β → Hp → Prop}
    (k : ∀ b σ a S r, Rl G r S → RSt G r σ σV → rel r a b → Post G rel2 W σV r (g σ a S) Q → R b r.H) : tX G W rel f σV H R := by
  obtain ⟨σ, S, r, e, l, s, p⟩ := h
  refine ⟨σ, S, r, e, l, s, (Post.bind p).mono fun b H1 ⟨a, S1, r1, e1, x, l1, z, p1⟩ => ?_⟩
  subst e1
  exact k b σ a S1 r1 l1 (s.ext x) z p1
end DL
end
section
set_option Elab.async false
set_option autoImplicit false
set_option linter.all false
set_option maxRecDepth 100000
set_option maxHeartbeats 2000000
/-! DLc: operators. -/
namespace DL
open PySem PySem.Spec PyProof.Rows L2

theorem fits_of {n : Nat} (h : fits n = true) : n ≤ sizeLine := by
  rw [sizeLine_eq]; exact Nat.le_of_ble_eq_true h
theorem txt_length (x : List Nat) : (txt x).length = x.length := by simp [txt, Str.length]
theorem txt_append (x y : List Nat) : txt x ++ txt y = txt (x ++ y) := by
  show Str.append (txt x) (txt y) = txt (x ++ y)
  unfold Str.append txt
  simp
theorem txt_inj {x y : List Nat} (h : txt x = txt y) : x = y := by
  unfold txt at h
  have : x.toArray = y.toArray := congrArg Str.cps h
  simpa using this
section
variable {G : Glob} {r : RS} {S : Store} {X : Cx} {pins : List (Addr × Obj)} {σ : L2.St} {s : Shared} {H : Hp}
theorem lOf_rep (l : Rl G r S) {d : D} {v : V} {xs : List D} (h : Rep G r d v) (e : lOf d S = some xs) : ∃ a vs, v = .ref a ∧ Rd r.H a (.lst vs) ∧ Reps G r xs vs := by
  cases h with
  | lst h z hs =>
    have : some _ = some xs := e
    cases this
    exact ⟨_, _, rfl, h, hs⟩
  | ref h =>
    obtain ⟨a, vs, h1, h2, h3⟩ := l.obj _ xs e
    rw [h] at h1; cases h1
    exact ⟨_, vs, rfl, .inl h2, h3⟩
  | _ => cases e
theorem seqOf_rep (l : Rl G r S) {d : D} {v : V} {xs : List D} (h : Rep G r d v) (e : seqOf d S = some xs) : ∃ a vs, v = .ref a ∧ ((Rd r.H a (.lst vs) ∧ lOf d S = some xs) ∨ (Ft G r a vs ∧ d = .tup xs)) ∧ Reps G r xs vs := by
  cases h with
  | tup h hs =>
    have : some _ = some xs := e
    cases this
    exact ⟨_, _, rfl, .inr ⟨h, rfl⟩, hs⟩
  | lst h z hs =>
    obtain ⟨a, vs, h1, h2, h3⟩ := lOf_rep l (.lst h z hs) (show lOf _ S = some xs from e)
    exact ⟨a, vs, h1, .inl ⟨h2, e⟩, h3⟩
  | ref h =>
    obtain ⟨a, vs, h1, h2, h3⟩ := lOf_rep l (.ref h) (show lOf _ S = some xs from e)
    exact ⟨a, vs, h1, .inl ⟨h2, e⟩, h3⟩
  | _ => cases e
theorem Inv.lstR {p : Addr} {xs : List V} (I : Inv X pins σ H s) (h : Rd H p (.lst xs)) :
    xs.length ≤ sizeLine ∧ ∃ (its : List Value) (n : Nat), Vals xs its ∧ xs.length = its.length ∧ s.heap.get? p = some { cls := .type "list", data := .seq its.toArray n } := by
  obtain ⟨z, its, n, r, e⟩ := h.ok I.hok
  exact ⟨z, its, n, r, r.length, e⟩
end
theorem Post.newTup {G : Glob} {r : RS} {S : Store} {W : WX} {σV : L2.St} {Q : VK} {ds : List D} {vs : List V} (p : Post G (Rep G) W σV r (.ok (.tup ds) S) Q) (l : Rl G r S) (hs : Reps G r ds vs) {q : Addr} (hq : r.H q = none) : Q (.ref q) (upd r.H q (.tup vs)) := by
  have e := Ext.put l hq (.tup vs)
  exact p (.ref q) (r.put q (.tup vs)) e (Rl.put l hq _) (.tup (.inl ⟨.inl put_at, Rl.noZ l hq⟩) (hs.ext e))
theorem Post.newLst {G : Glob} {r : RS} {S : Store} {W : WX} {σV : L2.St} {Q : VK} {ds : List D} {vs : List V} (p : Post G (Rep G) W σV r (.ok (.lst ds) S) Q) (l : Rl G r S) (hs : Reps G r ds vs) {q : Addr} (hq : r.H q = none) : Q (.ref q) (upd r.H q (.lst vs)) := by
  have e := Ext.put l hq (.lst vs)
  exact p (.ref q) (r.put q (.lst vs)) e (Rl.put l hq _) (.lst (.inl put_at) (Rl.noZ l hq) (hs.ext e))
/-- a rule of two values tells what op tells -/
def R2S (G : Glob) (X : Cx) (f : Value → Value → Sem Value) (op : D → D → Store → Out D) : Prop :=
  ∃ rr : R2, OpR X f rr ∧ ∀ (W : WX) (σV : L2.St) (x y : D) (S : Store) (r : RS) (vx vy : V) (Q : VK), Rl G r S → Rep G r x vx → Rep G r y vy → Post G (Rep G) W σV r (op x y S) Q → rr vx vy r.H Q
section
variable {X : Cx} {G : Glob}
/-- xs + ys of lists -/
def rCatR : R2 := fun x y H Q => ∃ l b xs zs, x = .ref l ∧ y = .ref b ∧ Rd H l (.lst xs) ∧ Rd H b (.lst zs) ∧ xs.length + zs.length ≤ sizeLine ∧ ∀ p, H p = none → Q (.ref p) (upd H p (.lst (xs ++ zs)))
theorem op_catR : OpR X (binaryOp .Add) rCatR := by
  intro pins s σ H x y v u Q I rx ry h
  obtain ⟨l, b, xs, zs, rfl, rfl, hH, hB, hz, q⟩ := h
  cases rx
  cases ry
  obtain ⟨z, its, n, r, hl, e⟩ := Inv.lstR I hH
  obtain ⟨z2, its2, n2, r2, hl2, e2⟩ := Inv.lstR I hB
  refine PySem.P.add_list e e2 ?_ (by rw [List.size_toArray, List.size_toArray]; omega)
  have ea : its.toArray ++ its2.toArray = (its ++ its2).toArray := by simp
  rw [ea]
  exact ⟨.ref _, _, I.lnew (t' := s.toks) (r.append r2) (by rw [List.length_append]; omega), rfl, q _ I.fresh⟩
def rRepR : R2 := fun x y H Q => ∃ l k xs, x = .ref l ∧ y = .int k ∧ Rd H l (.lst xs) ∧ -(2 ^ 63) ≤ k ∧ k < 2 ^ 63 ∧ xs.length * k.toNat ≤ sizeLine ∧
  ∀ p, H p = none → Q (.ref p) (upd H p (.lst (List.replicate k.toNat xs).flatten))
theorem op_repR : OpR X (binaryOp .Mult) rRepR := by
  intro pins s σ H x y v u Q I rx ry h
  obtain ⟨l, k, xs, rfl, rfl, hH, h1, h2, hz, q⟩ := h
  cases rx
  obtain ⟨t, rfl⟩ := ry
  obtain ⟨z, its, n, r, hl, e⟩ := Inv.lstR I hH
  have hlen : its.toArray.size * k.toNat ≤ sizeLine := by rw [List.size_toArray, ← hl]; exact hz
  have hcap : ¬ its.toArray.size * k.toNat > (2 ^ 63 - 1) / 8 := by
    have : (sizeLine : Nat) ≤ (2 ^ 63 - 1) / 8 := by decide
    omega
  have hfit : ¬ (!Builtin.List.listFitsIndex k) = true := by
    rw [fitsIndex_both h1 h2]
    exact Bool.false_ne_true
  have hlong : ¬ Builtin.List.listTooLong (its.toArray.size * k.toNat) = true := by
    rw [notLongL hlen]
    exact Bool.false_ne_true
  have hnew : List.foldl (fun x1 x2 => x1 ++ x2) #[] (List.replicate (if its.toArray.isEmpty = true then 0 else k.toNat) its.toArray) = (List.replicate k.toNat its).flatten.toArray := by
    have f0 : ∀ m : Nat, List.foldl (fun x1 x2 => x1 ++ x2) #[] (List.replicate m its.toArray) = (List.replicate m its).flatten.toArray := fun m => by
      have := foldl_rep its m []
      rw [List.nil_append] at this
      exact this
    rw [f0]
    cases its with
    | nil => simp
    | cons a r' => rw [if_neg (by simp)]
  refine wpAny_binaryOp_repeat_ref (T := "list") (U := "int") (by decide) ⟨_, e, rfl⟩ (fun s' => typeIs_int s' k t) noFill_list_mul F.fills_int_mul F.slot_int_rmul repeat_list F.slot_int_index.lookup
    (call_meets F.slot_int_rmul (typeIs_int s k t) F.entry_int_rmul (F.args_int_rmul_2 _ _) (int___rmul___int_list k t l its.toArray n)
      ⟨e, rfl, ⟨_, e, rfl⟩, call_meets F.slot_list_mul ⟨_, e, rfl⟩ F.entry_list_mul (F.args_list_mul_2 _ _) (AutoListH.list___mul___list_int_3 l its.toArray n k t hfit hcap hlong) ⟨e, ?_⟩⟩)
  rw [hnew]
  exact ⟨.ref _, _, I.lnew (t' := s.toks) (r.rep k.toNat) (by rw [PyProof.Rows.lm_len_rep_flat, Nat.mul_comm]; exact hz), rfl, q _ I.fresh⟩
/-! t * k: the same tuple for 1 or an empty one, the empty one for 0 or less -/
open PySem.AutoSeq1 (wpAny_loadPart')
theorem tuple_mul_same (l : Addr) (items : Array Value) (n : Nat) (dd : Option Addr) (sl : Array (Option Value)) (x : Int) (u : Tok) (c0 : (decide (x < -(2 ^ 63)) || decide (x ≥ 2 ^ 63)) = false) (c1 : (items.isEmpty || x == 1) = true) :
    Meets (Builtin.«tuple.__mul__» ⟨[.ref l, .int x u], []⟩) (fun _ R s => s.heap.get? l = some { cls := .type "tuple", dict := dd, data := .seq items n, slots := sl } ∧ R (.ok (.ret (Value.ref l))) s) :=
  .of_wp fun prog w A R s h => by
    obtain ⟨hp, g, d, tk, os⟩ := s
    obtain ⟨hl, h⟩ := h
    have f1 := AutoSeq1.idx_int
    wp_walk using wpAny_loadPart' hl
    repeat (first
      | (refine wpAny_ite_false (decide_eq_false (by rw [c0]; exact Bool.false_ne_true)) ?_; wp_walk using wpAny_loadPart' hl)
      | (refine wpAny_ite_true (decide_eq_true c1) ?_; wp_walk using wpAny_loadPart' hl))
    exact ⟨_, rfl, h⟩
theorem tuple_mul_none (l : Addr) (items : Array Value) (n : Nat) (dd : Option Addr) (sl : Array (Option Value)) (x : Int) (u : Tok) (c0 : (decide (x < -(2 ^ 63)) || decide (x ≥ 2 ^ 63)) = false) (c1 : (items.isEmpty || x == 1) = false) (c2 : (decide (x ≤ 0) || items.isEmpty) = true) :
    Meets (Builtin.«tuple.__mul__» ⟨[.ref l, .int x u], []⟩) (fun _ R s => s.heap.get? l = some { cls := .type "tuple", dict := dd, data := .seq items n, slots := sl } ∧
      R (.ok (.ret (Value.ref s.heap.objs.size))) { s with heap := s.heap.push { cls := Value.type "tuple", data := Data.seq #[] }, toks := s.toks }) :=
  .of_wp fun prog w A R s h => by
    obtain ⟨hp, g, d, tk, os⟩ := s
    obtain ⟨hl, h⟩ := h
    have f1 := AutoSeq1.idx_int
    wp_walk using wpAny_loadPart' hl
    repeat (first
      | (refine wpAny_ite_false (decide_eq_false (by rw [c0]; exact Bool.false_ne_true)) ?_; wp_walk using wpAny_loadPart' hl)
      | (refine wpAny_ite_false (decide_eq_false (by rw [c1]; exact Bool.false_ne_true)) ?_; wp_walk using wpAny_loadPart' hl)
      | (refine wpAny_ite_true (decide_eq_true c2) ?_; wp_walk using wpAny_loadPart' hl))
    all_goals exact ⟨_, rfl, h⟩
end
end DL
end
section
set_option Elab.async false
set_option autoImplicit false
set_option linter.all false
set_option maxRecDepth 100000
set_option maxHeartbeats 2000000
/-! DLd: binary operators. -/
namespace DL
open PySem PySem.Spec PyProof.Rows L2
section
variable {X : Cx} {G : Glob}
def rRepA (K : PySem.W.Frag) : R2 := fun x y H Q => ∃ l k xs, x = .ref l ∧ y = .int k ∧ SqT K H l xs ∧ -1000 ≤ k ∧ k ≤ 1000 ∧ xs.length ≤ 1000 ∧ (∀ p, H p = none → Q (.ref p) (upd H p (.tup (List.replicate k.toNat xs).flatten))) ∧ ((xs = [] ∨ k = 1) → Q (.ref l) H)
theorem op_repA : OpR X (binaryOp .Mult) (rRepA X.K) := by
  intro pins s σ H x y v u Q I rx ry h
  obtain ⟨l, k, xs, rfl, rfl, hT, h1, h2, hz, q, q1⟩ := h
  by_cases hs : xs = [] ∨ k = 1
  · cases rx
    obtain ⟨t, rfl⟩ := ry
    obtain ⟨its, r, ⟨⟨cls, dd, data, sl⟩, ho, hc, n, hd⟩, _⟩ := I.tuple hT
    simp only at hc hd
    subst hc hd
    have c0 : (decide (k < -(2 ^ 63)) || decide (k ≥ 2 ^ 63)) = false := by
      rw [decide_eq_false (by omega), decide_eq_false (by omega)] <;> rfl
    have c1 : (its.toArray.isEmpty || k == 1) = true := by
      rcases hs with hs | hs
      · subst hs; cases r; rfl
      · subst hs; simp
    exact wpAny_binaryOp_repeat_ref (T := "tuple") (U := "int") (by decide) ⟨_, ho, rfl⟩ (fun s' => typeIs_int s' k t) noFill_tuple_mul F.fills_int_mul F.slot_int_rmul repeat_tuple F.slot_int_index.lookup
      (call_meets F.slot_int_rmul (typeIs_int s k t) F.entry_int_rmul (F.args_int_rmul_2 _ _) (int_rmul_tuple k t l its.toArray n dd sl)
        ⟨ho, rfl, ⟨_, ho, rfl⟩, call_meets F.slot_tuple_mul ⟨_, ho, rfl⟩ F.entry_tuple_mul (F.args_tuple_mul_2 _ _) (tuple_mul_same l its.toArray n dd sl k t c0 c1) ⟨ho, ⟨.ref l, H, I, rfl, q1 hs⟩⟩⟩)
  · have hne : xs ≠ [] := fun e => hs (.inl e)
    by_cases h3 : 2 ≤ k
    · exact op_repT pins s σ H _ _ v u Q I rx ry ⟨l, k, xs, rfl, rfl, hT, hne, h3, h2, hz, q⟩
    · have hk : k ≤ 0 := by
        have : k ≠ 1 := fun e => hs (.inr e)
        omega
      cases rx
      obtain ⟨t, rfl⟩ := ry
      obtain ⟨its, r, ⟨⟨cls, dd, data, sl⟩, ho, hc, n, hd⟩, _⟩ := I.tuple hT
      simp only at hc hd
      subst hc hd
      have c0 : (decide (k < -(2 ^ 63)) || decide (k ≥ 2 ^ 63)) = false := by
        rw [decide_eq_false (by omega), decide_eq_false (by omega)] <;> rfl
      have c1 : (its.toArray.isEmpty || k == 1) = false := by
        have e1 : its.toArray.isEmpty = false := by
          cases its with
          | nil => cases r; exact absurd rfl hne
          | cons a b => rfl
        rw [e1, Bool.false_or]
        exact beq_eq_false_iff_ne.mpr (by omega)
      have c2 : (decide (k ≤ 0) || its.toArray.isEmpty) = true := by rw [decide_eq_true hk] <;> rfl
      have e0 : k.toNat = 0 := by omega
      have qq := q s.heap.objs.size (I.hok.fresh (Nat.le_refl _))
      rw [e0] at qq
      have qq : Q (.ref s.heap.objs.size) (upd H s.heap.objs.size (.tup [])) := qq
      refine wpAny_binaryOp_repeat_ref (T := "tuple") (U := "int") (by decide) ⟨_, ho, rfl⟩ (fun s' => typeIs_int s' k t) noFill_tuple_mul F.fills_int_mul F.slot_int_rmul repeat_tuple F.slot_int_index.lookup
        (call_meets F.slot_int_rmul (typeIs_int s k t) F.entry_int_rmul (F.args_int_rmul_2 _ _) (int_rmul_tuple k t l its.toArray n dd sl)
          ⟨ho, rfl, ⟨_, ho, rfl⟩, call_meets F.slot_tuple_mul ⟨_, ho, rfl⟩ F.entry_tuple_mul (F.args_tuple_mul_2 _ _) (tuple_mul_none l its.toArray n dd sl k t c0 c1 c2) ⟨ho, ?_⟩⟩)
      refine ⟨.ref s.heap.objs.size, _, I.laid (t' := s.toks) (o := .tup []) (fun b ob q => Heap.get?_push_of_some _ q) (Nat.le_refl _) ?_, rfl, qq⟩
      exact ⟨Nat.zero_le _, [], .nil, IsTup.new _ _⟩
theorem rep_eq (xs : List D) : ∀ n, rep xs n = (List.replicate n xs).flatten
  | 0 => rfl
  | n + 1 => by rw [rep, rep_eq xs n, List.replicate_succ, List.flatten_cons]
theorem Reps.rep {r : RS} {ds : List D} {vs : List V} (h : Reps G r ds vs) : ∀ n, Reps G r (rep ds n) (List.replicate n vs).flatten
  | 0 => .nil
  | n + 1 => by
    rw [List.replicate_succ, List.flatten_cons]
    exact h.append (Reps.rep h n)
/-- s * k -/
theorem op_repS : OpR X (binaryOp .Mult) (fun x y H Q => ∃ (z : List Nat) (k : Int), x = .str (txt z) ∧ y = .int k ∧ 0 ≤ k ∧ k ≤ 10000 ∧ z.length ≤ 1 ∧ Q (.str (txt (repN z k.toNat))) H) := by
  intro pins s σ H x y v u Q I rx ry h
  obtain ⟨z, k, rfl, rfl, h0, h1, hz, q⟩ := h
  obtain ⟨t, rfl⟩ := rx
  obtain ⟨t', rfl⟩ := ry
  have hl := txt_length z
  refine SB.mul ⟨?_, fun a b => ?_, fun a b => ?_⟩ fun t2 kk => ?_
  · rw [decide_eq_false (by omega), decide_eq_false (by omega)] <;> rfl
  · rw [hl]
    intro c
    have h3 : (1 : Int) ≤ (2 ^ 63 - 1) / k := Int.le_ediv_of_mul_le (by omega) (by omega)
    omega
  · rw [hl]
    unfold Builtin.Str.tooLong
    have : z.length * k.toNat ≤ 1 * 10000 := Nat.mul_le_mul hz (by omega)
    have e := sizeLine_eq
    exact decide_eq_false (by omega)
  · have e : Txt.mul (txt z) k = txt (repN z k.toNat) := by
      unfold Txt.mul
      by_cases a : k < 1
      · rw [if_pos a]
        have : k.toNat = 0 := by omega
        rw [this]; rfl
      · rw [if_neg a]
        by_cases b : (k == 1 || (txt z).length == 0) = true
        · rw [if_pos b]
          rw [Bool.or_eq_true] at b
          rcases b with b | b
          · have : k = 1 := beq_iff_eq.mp b
            subst this
            show txt z = txt (repN z 1)
            simp [repN]
          · have : z.length = 0 := by rw [← hl]; exact beq_iff_eq.mp b
            have ez : z = [] := List.eq_nil_of_length_eq_zero this
            subst ez
            have : ∀ n, repN [] n = [] := fun n => by induction n with
              | zero => rfl
              | succ n ih => simp [repN, ih]
            rw [this]
        · rw [if_neg b]
          unfold txt
          congr 1
          have f0 : ∀ (m : Nat) (acc : List Nat), List.foldl (fun (x1 x2 : Array Nat) => x1 ++ x2) acc.toArray (List.replicate m z.toArray) = (acc ++ repN z m).toArray := by
            intro m
            induction m with
            | zero => intro acc; simp [repN]
            | succ m ih =>
              intro acc
              rw [List.replicate_succ, List.foldl_cons]
              have : acc.toArray ++ z.toArray = (acc ++ z).toArray := by simp
              rw [this, ih (acc ++ z), repN, List.append_assoc]
          have := f0 k.toNat []
          simpa using this
    rw [e]
    exact ⟨.str _, H, I.tok _, ⟨_, rfl⟩, q⟩
def CDivX (_ j : Int) : Prop := j ≠ 0 ∧ j.natAbs.log2 < 9000
theorem op_fdivX : OpR X (binaryOp .FloorDiv) (rI CDivX fun i j => .int (i.fdiv j)) := opI fun _ _ _ _ _ _ _ hc q => floordiv_int hc.1 q (.inl (PyProof.noPylong_of_log2 hc.2))
def CPowX (i j : Int) : Prop := 0 ≤ j ∧ j ≤ 1000 ∧ i.natAbs.log2 < 1000
theorem op_powX : OpR X (binaryOp .Pow) (rI CPowX fun i j => .int (i ^ j.toNat)) := opI fun i j _ _ _ _ _ hc q => by
  refine pow_int hc.1 ?_ q
  have b : Builtin.Int.intBits i ≤ i.natAbs.log2 + 1 := by
    unfold Builtin.Int.intBits
    split <;> omega
  have h1 := hc.2.2
  have h2 : ((Builtin.Int.intBits i : Nat) : Int) ≤ 1000 := by omega
  have h3 : ((Builtin.Int.intBits i : Nat) : Int) * j ≤ 1000 * 1000 := Int.mul_le_mul h2 hc.2.1 hc.1 (by omega)
  omega

theorem isOk {n m : Nat} (h : Nat.ble n m = true) : n ≤ m := Nat.le_of_ble_eq_true h

theorem r2_add (hK : X.K = G.K) : R2S G X (binaryOp .Add) opAdd := by
  refine ⟨_, op_add.or (op_add_str.or (op_catA.or op_catR)), fun W σV x y S r vx vy Q l hx hy p => ?_⟩
  rw [hK]
  have lists : ∀ {xs ys : List D}, lOf x S = some xs → lOf y S = some ys → Post G (Rep G) W σV r (if fits (xs.length + ys.length) then .ok (.lst (xs ++ ys)) S else .bad) Q → rCatR vx vy r.H Q := fun {xs ys} ex ey p => by
    obtain ⟨a, vs, rfl, ra, sa⟩ := lOf_rep l hx ex
    obtain ⟨b, ws, rfl, rb, sb⟩ := lOf_rep l hy ey
    split at p
    · rename_i hz
      refine ⟨a, b, vs, ws, rfl, rfl, ra, rb, by rw [← sa.length, ← sb.length]; exact fits_of hz, fun q hq => ?_⟩
      exact Post.newLst p l (sa.append sb) hq
    · exact False.elim p
  unfold opAdd at p
  split at p
  · cases hx; cases hy
    exact .inl ⟨_, _, rfl, rfl, Post.here p l (.int _)⟩
  · cases hx; cases hy
    split at p
    · rename_i hz
      refine .inr (.inl ⟨_, _, rfl, rfl, by rw [txt_length, txt_length]; exact fits_of hz, ?_⟩)
      rw [txt_append]
      exact Post.here p l (.str _)
    · exact False.elim p
  · cases hx with
    | tup ta sa =>
      cases hy with
      | tup tb sb =>
        split at p
        · rename_i hz
          refine .inr (.inr (.inl ⟨_, _, _, _, rfl, rfl, ta.sq, tb.sq, by rw [← sa.length, ← sb.length]; exact fits_of hz, fun e => ?_, fun e e' => ?_, fun e e' q hq => ?_⟩))
          · subst e; cases sa
            exact Post.here p l (.tup tb sb)
          · subst e'; cases sb
            rw [List.append_nil] at p
            exact Post.here p l (.tup ta sa)
          · exact Post.newTup p l (sa.append sb) hq
        · exact False.elim p
  · split at p
    · rename_i ex ey
      exact .inr (.inr (.inr (lists ex ey p)))
    · exact False.elim p
theorem r2_sub : R2S G X (binaryOp .Sub) opSub := by
  refine ⟨_, op_sub, fun W σV x y S r vx vy Q l hx hy p => ?_⟩
  unfold opSub at p
  split at p
  · cases hx; cases hy
    exact ⟨_, _, rfl, rfl, Post.here p l (.int _)⟩
  · exact False.elim p
theorem r2_mul (hK : X.K = G.K) : R2S G X (binaryOp .Mult) opMul := by
  refine ⟨_, op_mulW.or (op_repA.or (op_repS.or op_repR)), fun W σV x y S r vx vy Q l hx hy p => ?_⟩
  rw [hK]
  unfold opMul at p
  split at p
  · cases hx; cases hy
    split at p
    · rename_i hz
      exact .inl ⟨_, _, rfl, rfl, Nat.lt_succ_of_le (isOk hz), Post.here p l (.int _)⟩
    · exact False.elim p
  · cases hx with
    | tup ta sa =>
      cases hy
      split at p
      · rename_i hz
        rw [Bool.and_eq_true, Bool.and_eq_true, decide_eq_true_eq, decide_eq_true_eq] at hz
        refine .inr (.inl ⟨_, _, _, rfl, rfl, ta.sq, hz.1.1, hz.1.2, by rw [← sa.length]; exact isOk hz.2, fun q hq => ?_, fun e => ?_⟩)
        · exact Post.newTup p l (sa.rep _) hq
        · rcases e with e | e
          · subst e; cases sa
            have : ∀ n, rep [] n = [] := fun n => by induction n with
              | zero => rfl
              | succ n ih => simp [rep, ih]
            rw [this] at p
            exact Post.here p l (.tup ta .nil)
          · subst e
            have : ∀ xs : List D, rep xs (Int.toNat 1) = xs := fun xs => by
              show xs ++ [] = xs
              simp
            rw [this] at p
            exact Post.here p l (.tup ta sa)
      · exact False.elim p
  · cases hx; cases hy
    split at p
    · rename_i hz
      rw [Bool.and_eq_true, Bool.and_eq_true, decide_eq_true_eq, decide_eq_true_eq] at hz
      exact .inr (.inr (.inl ⟨_, _, rfl, rfl, hz.1.1, hz.1.2, isOk hz.2, Post.here p l (.str _)⟩))
    · exact False.elim p
  · cases hy
    split at p
    · rename_i ex
      obtain ⟨a, vs, rfl, ra, sa⟩ := lOf_rep l hx ex
      split at p
      · rename_i hz
        rw [Bool.and_eq_true, Bool.and_eq_true, decide_eq_true_eq, decide_eq_true_eq] at hz
        refine .inr (.inr (.inr ⟨a, _, vs, rfl, rfl, ra, by omega, by omega, ?_, fun q hq => ?_⟩))
        · rw [sizeLine_eq, ← sa.length]
          have h1 := isOk hz.2
          have h2 : ∀ k : Int, k ≤ 1000 → k.toNat ≤ 1000 := fun k h => by omega
          have h3 : ∀ n m : Nat, n ≤ 1000 → m ≤ 1000 → n * m ≤ 16777216 := fun n m a b => Nat.le_trans (Nat.mul_le_mul a b) (by decide)
          exact h3 _ _ h1 (h2 _ hz.1.2)
        · exact Post.newLst p l (sa.rep _) hq
      · exact False.elim p
    · exact False.elim p
  · exact False.elim p
theorem r2_div : R2S G X (binaryOp .FloorDiv) opDiv := by
  refine ⟨_, op_fdivX, fun W σV x y S r vx vy Q l hx hy p => ?_⟩
  unfold opDiv at p
  split at p
  · cases hx; cases hy
    split at p
    · rename_i hz
      rw [Bool.and_eq_true, decide_eq_true_eq] at hz
      exact ⟨_, _, rfl, rfl, ⟨hz.1, Nat.lt_succ_of_le (isOk hz.2)⟩, Post.here p l (.int _)⟩
    · exact False.elim p
  · exact False.elim p
theorem r2_mod : R2S G X (binaryOp .Mod) opMod := by
  refine ⟨_, op_modN, fun W σV x y S r vx vy Q l hx hy p => ?_⟩
  unfold opMod at p
  split at p
  · cases hx; cases hy
    split at p
    · rename_i hz
      exact ⟨_, _, rfl, rfl, of_decide_eq_true hz, Post.here p l (.int _)⟩
    · exact False.elim p
  · exact False.elim p
theorem r2_pow : R2S G X (binaryOp .Pow) opPow := by
  refine ⟨_, op_powX, fun W σV x y S r vx vy Q l hx hy p => ?_⟩
  unfold opPow at p
  split at p
  · cases hx; cases hy
    split at p
    · rename_i hz
      rw [Bool.and_eq_true, Bool.and_eq_true, decide_eq_true_eq, decide_eq_true_eq] at hz
      exact ⟨_, _, rfl, rfl, ⟨hz.1.1, hz.1.2, Nat.lt_succ_of_le (isOk hz.2)⟩, Post.here p l (.int _)⟩
    · exact False.elim p
  · exact False.elim p
def opA : Op → Operator
  | .add => .Add
  | .sub => .Sub
  | .mul => .Mult
  | .fdiv => .FloorDiv
  | .mod => .Mod
  | .pow => .Pow
theorem r2_op (hK : X.K = G.K) (o : Op) : R2S G X (binaryOp (opA o)) (op2 o) := by
  cases o
  · exact r2_add hK
  · exact r2_sub
  · exact r2_mul hK
  · exact r2_div
  · exact r2_mod
  · exact r2_pow
end
end DL
end
section
set_option Elab.async false
set_option autoImplicit false
set_option linter.all false
set_option maxRecDepth 100000
set_option maxHeartbeats 2000000
/-! DLe: comparisons, truth. -/
namespace DL
open PySem PySem.Spec PyProof.Rows L2
mutual
def toPy : D → PyData
  | .non => .none
  | .bl b => .bool b
  | .int i => .int i
  | .str x => .str (txt x)
  | .tup xs => .tuple (toPys xs)
  | .lst xs => .list (toPys xs)
  | .ref _ => .none
  | .fn _ => .none
  | .exn _ _ => .none
  | .scr _ => .none
  | .dic => .none
def toPys : List D → List PyData
  | [] => []
  | x :: xs => toPy x :: toPys xs
end
section
variable {G : Glob} {r : RS} {S : Store} {X : Cx}
mutual
theorem dp_of : ∀ (n : Nat) (d : D) (v : V), plain n d = true → Rep G r d v → Dp G.K r.H v (toPy d)
  | _, .non, _, _, h => by cases h; rw [toPy]; exact .non
  | _, .bl b, _, _, h => by cases h; rw [toPy]; exact .bl b
  | _, .int i, _, _, h => by cases h; rw [toPy]; exact .int i
  | _, .str x, _, _, h => by cases h; rw [toPy]; exact .str _
  | 0, .tup _, _, p, _ => by rw [plain] at p; cases p
  | n + 1, .tup xs, _, p, h => by
    cases h with
    | tup t s =>
      rw [toPy]
      exact .tup t.sq (dps_of n xs _ (by rw [plain] at p; exact p) s)
  | 0, .lst _, _, p, _ => by rw [plain] at p; cases p
  | n + 1, .lst xs, _, p, h => by
    cases h with
    | lst t z s =>
      rw [toPy]
      exact .lst (.inl t) (dps_of n xs _ (by rw [plain] at p; exact p) s)
  | _, .ref _, _, p, _ => by simp [plain] at p
  | _, .fn _, _, p, _ => by simp [plain] at p
  | _, .exn _ _, _, p, _ => by simp [plain] at p
  | _, .scr _, _, p, _ => by simp [plain] at p
  | _, .dic, _, p, _ => by simp [plain] at p
theorem dps_of : ∀ (n : Nat) (ds : List D) (vs : List V), plains n ds = true → Reps G r ds vs → DpAll G.K r.H vs (toPys ds)
  | _, [], _, _, h => by cases h; rw [toPys]; exact .nil
  | n, d :: ds, _, p, h => by
    cases h with
    | cons h1 h2 =>
      rw [plains, Bool.and_eq_true] at p
      rw [toPys]
      exact .cons (dp_of n d _ p.1 h1) (dps_of n ds _ p.2 h2)
end
mutual
theorem shaped_aux : ∀ (n : Nat) (d : D), plain n d = true → (toPy d).canLay0 = true ∧ (toPy d).depth ≤ n
  | _, .non, _ => by simp [toPy, PyData.canLay0, PyData.depth]
  | _, .bl b, _ => by simp [toPy, PyData.canLay0, PyData.depth]
  | _, .int i, _ => by simp [toPy, PyData.canLay0, PyData.depth]
  | _, .str x, p => by
    rw [plain] at p
    simp only [toPy, PyData.canLay0, PyData.depth, PyData.strOk]
    refine ⟨?_, Nat.zero_le _⟩
    rw [Array.all_eq_true']
    intro c hc
    have hc' : c ∈ x := by simpa [txt] using hc
    have := List.all_eq_true.mp p c hc'
    have := Nat.le_of_ble_eq_true this
    exact decide_eq_true (by omega)
  | 0, .tup _, p => by rw [plain] at p; cases p
  | n + 1, .tup xs, p => by
    obtain ⟨a, b⟩ := shapeds_aux n xs (by rw [plain] at p; exact p)
    simp only [toPy, PyData.canLay0, PyData.depth]
    exact ⟨a, Nat.succ_le_succ b⟩
  | 0, .lst _, p => by rw [plain] at p; cases p
  | n + 1, .lst xs, p => by
    obtain ⟨a, b⟩ := shapeds_aux n xs (by rw [plain] at p; exact p)
    simp only [toPy, PyData.canLay0, PyData.depth]
    exact ⟨a, Nat.succ_le_succ b⟩
  | _, .ref _, p => by simp [plain] at p
  | _, .fn _, p => by simp [plain] at p
  | _, .exn _ _, p => by simp [plain] at p
  | _, .scr _, p => by simp [plain] at p
  | _, .dic, p => by simp [plain] at p
theorem shapeds_aux : ∀ (n : Nat) (ds : List D), plains n ds = true → PyData.canLayAll0 (toPys ds) = true ∧ PyData.depthAll (toPys ds) ≤ n
  | _, [], _ => by simp [toPys, PyData.canLayAll0, PyData.depthAll]
  | n, d :: ds, p => by
    rw [plains, Bool.and_eq_true] at p
    obtain ⟨a, b⟩ := shaped_aux n d p.1
    obtain ⟨a', b'⟩ := shapeds_aux n ds p.2
    simp only [toPys, PyData.canLayAll0, PyData.depthAll, a, a', Bool.and_self, true_and]
    exact Nat.max_le.mpr ⟨b, b'⟩
end
theorem shaped_of {n : Nat} {d : D} (h : n ≤ 64) (p : plain n d = true) : SeqAt.shaped (toPy d) = true := by
  obtain ⟨a, b⟩ := shaped_aux n d p
  unfold SeqAt.shaped
  rw [a, Bool.true_and]
  exact decide_eq_true (Nat.le_trans b h)
theorem str_beq (x y : List Nat) : ((txt x == txt y) : Bool) = decide (x = y) := by
  by_cases h : x = y
  · subst h; simp
  · rw [decide_eq_false h]
    exact beq_eq_false_iff_ne.mpr fun e => h (txt_inj e)
mutual
theorem eqv_of : ∀ (n m : Nat) (d e : D), plain n d = true → plain m e = true → eqv d e = PyData.eqv (toPy d) (toPy e)
  | n, m, d, e, p, q => by
    cases d with
    | ref _ => simp [plain] at p
    | fn _ => simp [plain] at p
    | exn _ _ => simp [plain] at p
    | scr _ => simp [plain] at p
    | dic => simp [plain] at p
    | tup xs =>
      cases n with
      | zero => rw [plain] at p; cases p
      | succ n =>
        cases e with
        | ref _ => simp [plain] at q
        | fn _ => simp [plain] at q
        | exn _ _ => simp [plain] at q
        | scr _ => simp [plain] at q
        | dic => simp [plain] at q
        | tup ys =>
          cases m with
          | zero => rw [plain] at q; cases q
          | succ m =>
            rw [plain] at p q
            simp only [eqv, toPy, PyData.eqv]
            exact eqvs_of n m xs ys p q
        | _ => simp [eqv, toPy, PyData.eqv]
    | lst xs =>
      cases n with
      | zero => rw [plain] at p; cases p
      | succ n =>
        cases e with
        | ref _ => simp [plain] at q
        | fn _ => simp [plain] at q
        | exn _ _ => simp [plain] at q
        | scr _ => simp [plain] at q
        | dic => simp [plain] at q
        | lst ys =>
          cases m with
          | zero => rw [plain] at q; cases q
          | succ m =>
            rw [plain] at p q
            simp only [eqv, toPy, PyData.eqv]
            exact eqvs_of n m xs ys p q
        | _ => simp [eqv, toPy, PyData.eqv]
    | str x =>
      cases e with
      | ref _ => simp [plain] at q
      | fn _ => simp [plain] at q
      | exn _ _ => simp [plain] at q
      | scr _ => simp [plain] at q
      | dic => simp [plain] at q
      | str y => simp only [eqv, toPy, PyData.eqv]; exact (str_beq x y).symm
      | _ => simp [eqv, toPy, PyData.eqv]
    | _ =>
      cases e with
      | ref _ => simp [plain] at q
      | fn _ => simp [plain] at q
      | exn _ _ => simp [plain] at q
      | scr _ => simp [plain] at q
      | dic => simp [plain] at q
      | _ => simp [eqv, toPy, PyData.eqv]
theorem eqvs_of : ∀ (n m : Nat) (ds es : List D), plains n ds = true → plains m es = true → eqvs ds es = PyData.eqvAll (toPys ds) (toPys es)
  | _, _, [], [], _, _ => by simp [eqvs, toPys, PyData.eqvAll]
  | _, _, [], _ :: _, _, _ => by simp [eqvs, toPys, PyData.eqvAll]
  | _, _, _ :: _, [], _, _ => by simp [eqvs, toPys, PyData.eqvAll]
  | n, m, d :: ds, e :: es, p, q => by
    rw [plains, Bool.and_eq_true] at p q
    simp only [eqvs, toPys, PyData.eqvAll, eqv_of n m d e p.1 q.1, eqvs_of n m ds es p.2 q.2]
end
theorem dp_deref (l : Rl G r S) {d : D} {v : V} (h : Rep G r d v) (p : plain 60 (deref S d) = true) : Dp G.K r.H v (toPy (deref S d)) := by
  cases h with
  | ref hm =>
    rename_i n a
    unfold deref at p ⊢
    cases e : S[n]? with
    | none =>
      simp only [e] at p
      simp [plain] at p
    | some xs =>
      simp only [e] at p ⊢
      obtain ⟨b, vs, h1, h2, h3⟩ := l.obj n xs e
      rw [hm] at h1; cases h1
      rw [toPy]
      exact .lst (.inl (.inl h2)) (dps_of 59 xs vs (by rw [plain] at p; exact p) h3)
  | non => exact dp_of 60 _ _ p .non
  | bl b => exact dp_of 60 _ _ p (.bl b)
  | int i => exact dp_of 60 _ _ p (.int i)
  | str x => exact dp_of 60 _ _ p (.str x)
  | tup t s => exact dp_of 60 _ _ p (.tup t s)
  | lst t z s => exact dp_of 60 _ _ p (.lst t z s)
  | fn g => simp [deref, plain] at p
  | scr _ => simp [deref, plain] at p
  | dic _ _ => simp [deref, plain] at p
  | exn0 _ _ => simp [deref, plain] at p
  | exn1 _ _ _ _ _ => simp [deref, plain] at p
/-- a comparison's rule tells what op tells -/
def C2S (G : Glob) (X : Cx) (f : Value → Value → Sem Value) (op : D → D → Store → Out Bool) : Prop :=
  ∃ rr : R2, OpR X f rr ∧ ∀ (W : WX) (σV : L2.St) (x y : D) (S : Store) (r : RS) (vx vy : V) (Q : Bool → Hp → Prop), Rl G r S → Rep G r x vx → Rep G r y vy → Post G RT W σV r (op x y S) Q → rr vx vy r.H (fun z H => ∃ k, z = .bl k ∧ Q k H)
def cpA : Cp → CmpOp
  | .eq => .Eq
  | .ne => .NotEq
  | .lt => .Lt
  | .le => .LtE
  | .gt => .Gt
  | .ge => .GtE
  | .is => .Is
  | .isn => .IsNot
  | .inn => .In
  | .nin => .NotIn
theorem hereB {W : WX} {σV : L2.St} {b : Bool} {Q : Bool → Hp → Prop} (p : Post G RT W σV r (.ok b S) Q) (l : Rl G r S) : ∃ k, V.bl b = .bl k ∧ Q k r.H := ⟨b, rfl, Post.here p l rfl⟩
theorem c2_int {cop : CmpOp} {f : Int → Int → Bool} (h : OpR X (compareOp cop) (rI0 fun i j => .bl (f i j))) : C2S G X (compareOp cop) (cpInt f) := by
  refine ⟨_, h, fun W σV x y S r vx vy Q l hx hy p => ?_⟩
  unfold cpInt at p
  split at p
  · cases hx; cases hy
    exact ⟨_, _, rfl, rfl, hereB p l⟩
  · exact False.elim p
theorem c2_eq (hK : X.K = G.K) (hu : X.A.units + 64 < cLine) : C2S G X (compareOp .Eq) cpEq := by
  refine ⟨_, op_eqD hu, fun W σV x y S r vx vy Q l hx hy p => ?_⟩
  rw [hK]
  unfold cpEq at p
  simp only at p
  split at p
  · rename_i hp
    rw [Bool.and_eq_true] at hp
    rw [eqv_of 60 60 _ _ hp.1 hp.2] at p
    exact ⟨_, _, dp_deref l hx hp.1, dp_deref l hy hp.2, shaped_of (by omega) hp.1, shaped_of (by omega) hp.2, hereB p l⟩
  · exact False.elim p
theorem c2_ne (hK : X.K = G.K) (hu : X.A.units + 64 < cLine) : C2S G X (compareOp .NotEq) (cmp2 .ne) := by
  refine ⟨_, op_neD hu, fun W σV x y S r vx vy Q l hx hy p => ?_⟩
  rw [hK]
  have p : Post G RT W σV r ((cpEq x y S).bind fun b S => .ok (!b) S) Q := p
  unfold cpEq at p
  simp only at p
  split at p
  · rename_i hp
    rw [Bool.and_eq_true] at hp
    have p : Post G RT W σV r (.ok (!(eqv (deref S x) (deref S y))) S) Q := p
    rw [eqv_of 60 60 _ _ hp.1 hp.2] at p
    exact ⟨_, _, dp_deref l hx hp.1, dp_deref l hy hp.2, shaped_of (by omega) hp.1, shaped_of (by omega) hp.2, hereB p l⟩
  · exact False.elim p
theorem cpIs_ok {d e : D} {k : Bool} {v w : V} (hd : Rep G r d v) (he : Rep G r e w) (h : cpIs d e = some k) : (w = .non ∧ k = decide (v = .non)) ∨ ∃ a b, v = .bl a ∧ w = .bl b ∧ k = decide (a = b) := by
  unfold cpIs at h
  split at h
  all_goals first
    | (cases h; done)
    | (cases hd; cases he; cases h; exact .inl ⟨rfl, rfl⟩)
    | (cases hd <;> cases he <;> cases h <;> exact .inl ⟨rfl, rfl⟩)
    | (cases hd; cases he; cases h; refine .inr ⟨_, _, rfl, rfl, ?_⟩; rename_i a b; cases a <;> cases b <;> rfl)
theorem c2_is : C2S G X (compareOp .Is) (cmp2 .is) := by
  refine ⟨_, op_isN.or op_isBl, fun W σV x y S r vx vy Q l hx hy p => ?_⟩
  have p : Post G RT W σV r (ofOpt (cpIs x y) S) Q := p
  cases e : cpIs x y with
  | none => rw [e] at p; exact False.elim p
  | some k =>
    rw [e] at p
    rcases cpIs_ok hx hy e with ⟨rfl, h⟩ | ⟨a, b, rfl, rfl, h⟩
    · subst h
      exact .inl ⟨rfl, hereB p l⟩
    · subst h
      exact .inr ⟨a, b, rfl, rfl, hereB p l⟩
theorem c2_isn : C2S G X (compareOp .IsNot) (cmp2 .isn) := by
  refine ⟨_, op_notN.or op_notBl, fun W σV x y S r vx vy Q l hx hy p => ?_⟩
  have p : Post G RT W σV r (ofOpt ((cpIs x y).map (!·)) S) Q := p
  cases e : cpIs x y with
  | none => rw [e] at p; exact False.elim p
  | some k =>
    rw [e] at p
    rcases cpIs_ok hx hy e with ⟨rfl, h⟩ | ⟨a, b, rfl, rfl, h⟩
    · subst h
      exact .inl ⟨rfl, hereB p l⟩
    · subst h
      exact .inr ⟨a, b, rfl, rfl, hereB p l⟩
theorem flat_ok {d : D} {v : V} (h : Rep G r d v) (f : isFlat d = true) : flatV v = true := by
  cases h <;> first | rfl | (simp [isFlat] at f)
theorem eqV_ok {d e : D} {v w : V} (h : Rep G r d v) (h' : Rep G r e w) (f : isFlat d = true) (f' : isFlat e = true) : eqV v w = eqv d e := by
  cases h <;> cases h' <;> first
    | (simp [isFlat] at f; done) | (simp [isFlat] at f'; done)
    | (simp only [eqV, eqv]; exact str_beq _ _)
    | simp [eqV, eqv]
theorem flats_ok : ∀ {ds : List D} {vs : List V}, Reps G r ds vs → ds.all isFlat = true → vs.all flatV = true
  | _, _, .nil, _ => rfl
  | _, _, .cons h t, f => by
    rw [List.all_cons, Bool.and_eq_true] at f ⊢
    exact ⟨flat_ok h f.1, flats_ok t f.2⟩
theorem elem_ok {d : D} {v : V} (h : Rep G r d v) (f : isFlat d = true) : ∀ {ds : List D} {vs : List V}, Reps G r ds vs → ds.all isFlat = true → inV v vs = elemD d ds
  | _, _, .nil, _ => rfl
  | _, _, .cons h' t, g => by
    rw [List.all_cons, Bool.and_eq_true] at g
    unfold inV
    rw [List.any_cons, eqV_ok h' h g.1 f]
    have := elem_ok h f t g.2
    unfold inV at this
    rw [this]; rfl
theorem cpIn_ok (hK : X.K = G.K) (l : Rl G r S) {d e : D} {k : Bool} {v w : V} (hd : Rep G r d v) (he : Rep G r e w) (h : cpIn d e S = some k) :
    (∃ (c : Nat) (z : Str), v = .str ⟨#[c]⟩ ∧ w = .str z ∧ k = decide (c ∈ z.cps.toList)) ∨ ∃ p xs, w = .ref p ∧ (SqL X.K r.H p xs ∨ SqT X.K r.H p xs) ∧ flatV v = true ∧ xs.all flatV = true ∧ k = inV v xs := by
  unfold cpIn at h
  split at h
  · cases hd; cases he
    cases h
    refine .inl ⟨_, _, rfl, rfl, ?_⟩
    rw [decide_eq_decide]
    exact Iff.rfl
  · split at h
    · rename_i xs ex
      split at h
      · rename_i hf
        rw [Bool.and_eq_true] at hf
        cases h
        obtain ⟨a, vs, rfl, q, sa⟩ := seqOf_rep l he ex
        refine .inr ⟨a, vs, rfl, ?_, flat_ok hd hf.1, flats_ok sa hf.2, (elem_ok hd hf.1 sa hf.2).symm⟩
        rw [hK]
        rcases q with ⟨q, _⟩ | ⟨q, _⟩
        · exact .inl (.inl q)
        · exact .inr q.sq
      · cases h
    · cases h
theorem c2_in (hK : X.K = G.K) : C2S G X (compareOp .In) (cmp2 .inn) := by
  refine ⟨_, op_in_sign.or op_in_seq, fun W σV x y S r vx vy Q l hx hy p => ?_⟩
  have p : Post G RT W σV r (ofOpt (cpIn x y S) S) Q := p
  cases e : cpIn x y S with
  | none => rw [e] at p; exact False.elim p
  | some k =>
    rw [e] at p
    rcases cpIn_ok hK l hx hy e with ⟨c, z, rfl, rfl, h⟩ | ⟨q, xs, rfl, h1, h2, h3, h⟩
    · subst h
      exact .inl ⟨c, z, rfl, rfl, hereB p l⟩
    · subst h
      exact .inr ⟨q, xs, rfl, h1, h2, h3, hereB p l⟩
theorem c2_nin (hK : X.K = G.K) : C2S G X (compareOp .NotIn) (cmp2 .nin) := by
  refine ⟨_, op_notIn_sign.or op_notIn_seq, fun W σV x y S r vx vy Q l hx hy p => ?_⟩
  have p : Post G RT W σV r (ofOpt ((cpIn x y S).map (!·)) S) Q := p
  cases e : cpIn x y S with
  | none => rw [e] at p; exact False.elim p
  | some k =>
    rw [e] at p
    rcases cpIn_ok hK l hx hy e with ⟨c, z, rfl, rfl, h⟩ | ⟨q, xs, rfl, h1, h2, h3, h⟩
    · subst h
      exact .inl ⟨c, z, rfl, rfl, hereB p l⟩
    · subst h
      exact .inr ⟨q, xs, rfl, h1, h2, h3, hereB p l⟩
theorem c2_cmp (hK : X.K = G.K) (hu : X.A.units + 64 < cLine) (o : Cp) : C2S G X (compareOp (cpA o)) (cmp2 o) := by
  cases o
  · exact c2_eq hK hu
  · exact c2_ne hK hu
  · exact c2_int op_lt
  · exact c2_int op_le
  · exact c2_int op_gt
  · exact c2_int op_ge
  · exact c2_is
  · exact c2_isn
  · exact c2_in hK
  · exact c2_nin hK
/-! ### truth -/
theorem truth_ok (hK : X.K = G.K) {W : WX} {σV : L2.St} {d : D} {v : V} {Q : Bool → Hp → Prop} (l : Rl G r S) (h : Rep G r d v) (p : Post G RT W σV r (truth d S) Q) : ∃ k, TruV X.K v r.H k ∧ Q k r.H := by
  rw [hK]
  unfold truth at p
  split at p
  · cases h; exact ⟨false, rfl, Post.here p l rfl⟩
  · cases h; exact ⟨_, rfl, Post.here p l rfl⟩
  · cases h; exact ⟨_, rfl, Post.here p l rfl⟩
  · cases h
    split at p
    · rename_i hz
      refine ⟨_, ⟨by rw [txt_length]; exact fits_of hz, rfl⟩, ?_⟩
      have q := Post.here p l (b := !_) rfl
      rename_i x
      have e : (((txt x).length : Int) != 0) = !x.isEmpty := by
        rw [txt_length]
        cases x with
        | nil => rfl
        | cons a b => simp; omega
      rw [e]
      exact q
    · exact False.elim p
  · cases h with
    | tup t s =>
      refine ⟨_, .inr (.inl ⟨_, t.sq, rfl⟩), ?_⟩
      have q := Post.here p l (b := !_) rfl
      cases s <;> exact q
  · split at p
    · rename_i ex
      obtain ⟨a, vs, rfl, ra, sa⟩ := lOf_rep l h ex
      refine ⟨_, .inl ⟨vs, .inl ra, rfl⟩, ?_⟩
      have q := Post.here p l (b := !_) rfl
      cases sa <;> exact q
    · exact False.elim p
end
end DL
end
section
set_option Elab.async false
set_option autoImplicit false
set_option linter.all false
set_option maxRecDepth 100000
set_option maxHeartbeats 2000000
/-! DLf: items, slices. -/
namespace DL
open PySem PySem.Spec PyProof.Rows L2
section
variable {prog : Program} {w : World} {A : Around} {E : Value → Shared → Prop} {s : Shared}
theorem adjust_rev (n : Nat) : Builtin.Slice.sliceAdjust none none (-1) (n : Int) = ((n : Int) - 1, -1) := by
  unfold Builtin.Slice.sliceAdjust
  have h1 : (-1 : Int) < 0 := by omega
  simp only [h1, if_true]
theorem places_rev (n : Nat) : Builtin.Slice.slicePlaces ((n : Int) - 1) (-1) (-1) = n := by
  unfold Builtin.Slice.slicePlaces
  have h1 : ¬ ((-1 : Int) > 0) := by omega
  simp only [h1, if_false, Int.neg_neg, Int.ediv_one]
  split <;> omega
theorem filterMap_some {α β : Type} {f : α → Option β} {g : α → β} : ∀ {l : List α}, (∀ m ∈ l, f m = some (g m)) → l.filterMap f = l.map g
  | [], _ => rfl
  | a :: l, h => by
    rw [List.filterMap_cons, h a List.mem_cons_self, List.map_cons, filterMap_some fun m hm => h m (List.mem_cons_of_mem _ hm)]
theorem pick_rev (xs : Array Value) : ((List.range xs.size).filterMap fun (m : Nat) => xs[((xs.size : Int) - 1 + (m : Int) * (-1)).toNat]?).toArray = xs.toList.reverse.toArray := by
  congr 1
  have e : ∀ m ∈ List.range xs.size, (fun (m : Nat) => xs[((xs.size : Int) - 1 + (m : Int) * (-1)).toNat]?) m = some ((fun m => xs.toList.getD (xs.size - 1 - m) default) m) := by
    intro m hm
    have hm' : m < xs.size := List.mem_range.mp hm
    have h1 : ((xs.size : Int) - 1 + (m : Int) * (-1)).toNat = xs.size - 1 - m := by omega
    have h2 : xs.size - 1 - m < xs.size := by omega
    show xs[((xs.size : Int) - 1 + (m : Int) * (-1)).toNat]? = some (xs.toList.getD (xs.size - 1 - m) default)
    rw [h1, Array.getElem?_eq_getElem h2]
    simp [List.getD, h2]
  rw [filterMap_some e]
  apply List.ext_getElem?
  intro i
  by_cases hi : i < xs.size
  · have h2 : xs.size - 1 - i < xs.size := by omega
    rw [List.getElem?_map, List.getElem?_range hi, List.getElem?_reverse (by simpa using hi)]
    simp [List.getD, h2]
  · rw [List.getElem?_eq_none (by simpa using hi), List.getElem?_eq_none (by simpa using hi)]
theorem sliceApplied_rev {sl : Addr} {vs : Value} {n : Nat} {Q : Int × Int × Nat → Shared → Prop} (hs : s.heap.IsSliceOf sl .none .none vs) (ps : IsPart vs (some (-1)))
    (h : Q ((n : Int) - 1, -1, n) s) : wpAny (model prog w) A (Builtin.Slice.sliceApplied (.ref sl) (pure (n : Int))) Q E s := by
  obtain ⟨os, hos, hcs, hds⟩ := id hs
  unfold Builtin.Slice.sliceApplied Builtin.Slice.sliceFields
  refine wpAny_bind (wpAny_bind (wpAny_field hos hds (x := .none) rfl (wpAny_bind (wpAny_field hos hds (x := .none) rfl (wpAny_bind (wpAny_field hos hds (x := vs) rfl (wpAny_pure ?_)))))))
  refine wpAny_bind (HT.slicePart_ ps ?_)
  show wpAny _ _ (if ((-1 : Int) == 0) = true then _ else _) _ _ s
  rw [if_neg (by decide)]
  refine wpAny_bind (HT.slicePart_ .none (wpAny_bind (HT.slicePart_ .none (wpAny_bind (wpAny_pure ?_)))))
  show wpAny _ _ (match Builtin.Slice.sliceAdjust none none (-1) (n : Int) with | (lo, hi) => pure (lo, (-1 : Int), Builtin.Slice.slicePlaces lo hi (-1))) _ _ s
  rw [adjust_rev n]
  show wpAny _ _ (pure ((n : Int) - 1, (-1 : Int), Builtin.Slice.slicePlaces ((n : Int) - 1) (-1) (-1))) _ _ s
  rw [places_rev]
  exact wpAny_pure h
theorem getItem_tuple_rev {t sl : Addr} {items : Array Value} {vs : Value} {Q : Value → Shared → Prop} (ht : IsTup s.heap t items) (hs : s.heap.IsSliceOf sl .none .none vs) (ps : IsPart vs (some (-1)))
    (h : Q (.ref s.heap.objs.size) { s with heap := s.heap.push { cls := .type "tuple", data := .seq items.toList.reverse.toArray } })
    (hsz : items.size ≤ sizeLine) : wpAny (model prog w) A (getItem (.ref t) (.ref sl)) Q E s := by
  have htake : sizeOk (.seq items.toList.reverse.toArray) := by
    show items.toList.reverse.toArray.size ≤ sizeLine
    simpa using hsz
  obtain ⟨os, hos, hcs, hds⟩ := id hs
  have hTs : s.TypeIs (.ref sl) "slice" := ⟨os, hos, hcs⟩
  unfold getItem
  try with_reducible refine wpAny_holding ?_
  first | refine wpAny_bind (wpAny_pure ?_) | skip
  refine wpAny_bind (wpAny_sequenceKey ht.typeIs (by decide) ?_)
  refine wpAny_bind (wpAny_callSpecial?_slot (name := Str.ofString "__getitem__") ht.typeIs PyProof.Rows.slot_tuple_getitem
    (wpAny_call_entry PyProof.Rows.slot_tuple_getitem ht.typeIs entry_tuple_getitem ?_ (args_tuple_getitem _ _)))
  show wpAny _ _ (Builtin.Tuple.tupleItemsOf (.ref t) >>= _) _ _ s
  refine wpAny_bind (tupleItemsOf_ ht ?_)
  refine wpAny_bind (wpAny_typeOf hTs ?_)
  rw [if_pos (by decide)]
  refine wpAny_bind (sliceApplied_rev hs ps ?_)
  have hno : ¬ ((((items.size : Int) - 1) == 0 && (-1 : Int) == 1 && items.size == items.size) = true) := by
    intro q
    rw [Bool.and_eq_true, Bool.and_eq_true] at q
    exact absurd q.1.2 (by decide)
  show wpAny _ _ (if (((items.size : Int) - 1) == 0 && (-1 : Int) == 1 && items.size == items.size) = true then _ else _) _ _ s
  rw [if_neg hno, pick_rev]
  first
    | exact wpAny_bind (m := Builtin.Tuple.tupleExact _) (wpAny_newObj_type (wpAny_pure ⟨_, rfl, wpAny_pure h⟩) htake)
    | exact wpAny_bind (m := Builtin.Tuple.tupleExact _) (wpAny_newObj_type (wpAny_bind (wpAny_pure (wpAny_pure ⟨_, rfl, wpAny_pure h⟩))) htake)
    | exact wpAny_bind (wpAny_bind (m := Builtin.Tuple.tupleExact _) (wpAny_newObj_type (wpAny_pure (wpAny_pure ⟨_, rfl, wpAny_pure h⟩)) htake))
    | exact wpAny_bind (wpAny_bind (m := Builtin.Tuple.tupleExact _) (wpAny_newObj_type (wpAny_pure ⟨_, rfl, wpAny_pure h⟩) htake))
end
section
variable {X : Cx} {G : Glob} {r : RS} {S : Store}
/-- x[::-1] of a list, a tuple -/
def tRevA (K : PySem.W.Frag) (te : TE) : TE := fun σ H Q => te σ H fun x H1 => ∃ a xs, x = .ref a ∧ ((SqL K H1 a xs ∧ ∀ p, H1 p = none → Q (.ref p) (upd H1 p (.lst xs.reverse))) ∨ (SqT K H1 a xs ∧ ∀ p, H1 p = none → Q (.ref p) (upd H1 p (.tup xs.reverse))))
theorem pe_revA {e : Expr} {te : TE} {k : Nat} {p1 p2 p3 pos : Pos} (he : PE X e te) : PE X (.Subscript e (.Slice none none (some (.UnaryOp .USub (.Constant (.int 1) k p1) p2)) p3) pos) (tRevA X.K te) := by
  refine ⟨fun pins s σ H Q I h => ?_⟩
  refine Subscript_ (thn (he.run pins s σ H _ I h) fun v s1 ⟨x, H1, I1, r1, q1⟩ => ?_)
  obtain ⟨a, xs, ex, hx⟩ := q1
  subst ex
  cases r1
  have hst : PO X (some (.UnaryOp .USub (.Constant (.int 1) k p1) p2)) (tPart (tUn (rU fun i => .int (-i)) (tC (.int 1)))) := po_some (pe_un un_neg pe_int)
  refine wpAny_Slice (thn (po_none.run pins s1 σ H1 (fun o H2 => o = none ∧ H2 = H1) I1 ⟨rfl, rfl⟩) fun vl s2 ⟨l, H2, I2, pl, el, e2⟩ => ?_)
  subst el e2
  refine thn (po_none.run pins s2 σ H2 (fun o H3 => o = none ∧ H3 = H2) I2 ⟨rfl, rfl⟩) fun vu s3 ⟨u, H3, I3, pu, eu, e3⟩ => ?_
  subst eu e3
  refine thn (hst.run pins s3 σ H3 (fun o H4 => o = some (-1) ∧ H4 = H3) I3 ⟨1, rfl, -1, rfl, rfl, rfl⟩) fun vs s4 ⟨o, H4, I4, ps, eo, e4⟩ => ?_
  subst eo e4
  have I5 : Inv X pins σ H4 { s4 with heap := s4.heap.push { cls := .type "slice", data := .fields #[vl, vu, vs] } } := I4.kept (t' := s4.toks) fun b o q => Heap.get?_push_of_some _ q
  rcases hx with ⟨hx, q⟩ | ⟨hx, q⟩
  · obtain ⟨its, r, ht, hz⟩ := I5.list hx
    have hlen := r.length
    show wpAny (model X.prog X.w) X.A (subscriptTail e (.Slice none none (some (.UnaryOp .USub (.Constant (.int 1) k p1) p2)) p3) (.ref a) (.ref s4.heap.objs.size)) (EP X pins σ Q) X.xe { s4 with heap := s4.heap.push { cls := .type "slice", data := .fields #[vl, vu, vs] } }
    refine tail_any (ops := [.ref a, .ref s4.heap.objs.size]) ht.isList.typeIs (PySem.slot_list_getitem.lookup) ?_ (by with_unfolding_all rfl)
    refine wpAny_getItem_list_slice ht.isList (Heap.IsSliceOf.new _ vl vu vs) pl pu ps (by decide) ?_ (by rw [List.size_toArray]; omega)
    rw [PySem.W.krv_pick]
    refine ⟨.ref _, _, I5.laid (t' := s4.toks) (o := .lst xs.reverse) (fun b ob q => Heap.get?_push_of_some _ q) (Nat.le_refl _) ?_, rfl, q _ (I5.hok.fresh (Nat.le_refl _))⟩
    exact ⟨by rw [List.length_reverse]; exact hz, _, 0, r.reverse, Heap.get?_push_size _ rfl⟩
  · obtain ⟨its, r, ht, hz⟩ := I5.tuple hx
    have hlen := r.length
    cases pl
    cases pu
    show wpAny (model X.prog X.w) X.A (subscriptTail e (.Slice none none (some (.UnaryOp .USub (.Constant (.int 1) k p1) p2)) p3) (.ref a) (.ref s4.heap.objs.size)) (EP X pins σ Q) X.xe { s4 with heap := s4.heap.push { cls := .type "slice", data := .fields #[.none, .none, vs] } }
    refine tail_any (ops := [.ref a, .ref s4.heap.objs.size]) ht.typeIs (PyProof.Rows.slot_tuple_getitem.lookup) ?_ (by with_unfolding_all rfl)
    refine getItem_tuple_rev ht (Heap.IsSliceOf.new _ .none .none vs) ps ?_ (by rw [List.size_toArray]; omega)
    refine ⟨.ref _, _, I5.laid (t' := s4.toks) (o := .tup xs.reverse) (fun b ob q => Heap.get?_push_of_some _ q) (Nat.le_refl _) ?_, rfl, q _ (I5.hok.fresh (Nat.le_refl _))⟩
    exact ⟨by rw [List.length_reverse]; exact hz, _, r.reverse, IsTup.new _ _⟩
theorem ixAt_eq : ixAt = ixN := rfl
theorem getAt_ok {xs : List D} {vs : List V} {i : Int} {d : D} (h : Reps G r xs vs) (e : getAt xs i = some d) : ∃ v, atI vs i = some v ∧ Rep G r d v := by
  unfold getAt at e
  rw [ixAt_eq] at e
  cases q : ixN xs.length i with
  | none => rw [q] at e; cases e
  | some j =>
    rw [q] at e
    have e : xs[j]? = some d := e
    obtain ⟨v, h1, h2⟩ := h.get e
    refine ⟨v, ?_, h2⟩
    unfold atI
    rw [← h.length, q]; exact h1
/-- a rule of x[i] tells what item tells -/
theorem ix_ok (hK : X.K = G.K) {W : WX} {σV : L2.St} {x y : D} {vx vy : V} {Q : VK} (l : Rl G r S) (hx : Rep G r x vx) (hy : Rep G r y vy) (p : Post G (Rep G) W σV r (item x y S) Q) : rIx X.K vx vy r.H Q := by
  rw [hK]
  unfold item at p
  split at p
  · cases hx with
    | tup t s =>
      cases hy
      split at p
      · rename_i e
        obtain ⟨v, h1, h2⟩ := getAt_ok s e
        exact .inr (.inl ⟨_, _, _, v, rfl, rfl, t.sq, h1, Post.here p l h2⟩)
      · exact False.elim p
  · rename_i ns i
    cases hx with
    | scr f =>
      cases hy
      split at p
      · rename_i k e
        refine .inl ⟨_, _, _, .int k, rfl, rfl, f.sq, ?_, Post.here p l (.int _)⟩
        unfold atI
        rw [List.length_map]
        have q : ∀ o : Option Nat, ixN ns.length i = o → ixAt ns.length i = o := fun o h => h
        cases h : ixN ns.length i with
        | none => rw [q _ h] at e; cases e
        | some j =>
          rw [q _ h] at e
          have e : ns[j]? = some k := e
          show (ns.map V.int)[j]? = some (.int k)
          rw [List.getElem?_map, e]; rfl
      · exact False.elim p
  · cases hx; cases hy
    split at p
    · rename_i hz
      split at p
      · rename_i c e
        refine .inr (.inr ⟨_, _, c, rfl, rfl, by rw [txt_length]; exact fits_of hz, ?_, ?_⟩)
        · exact e
        · exact Post.here p l (.str [c])
      · exact False.elim p
    · exact False.elim p
  · cases hy
    split at p
    · rename_i d e
      cases ex : lOf x S with
      | none => rw [ex] at e; cases e
      | some xs =>
        rw [ex] at e
        obtain ⟨a, vs, rfl, ra, sa⟩ := lOf_rep l hx ex
        obtain ⟨v, h1, h2⟩ := getAt_ok sa e
        exact .inl ⟨_, _, _, v, rfl, rfl, .inl ra, h1, Post.here p l h2⟩
    · exact False.elim p
  · exact False.elim p
theorem clip_ok : clip = HT.sIx := by
  funext n d o
  cases o <;> rfl
theorem cut_ok {xs : List D} {vs : List V} (h : Reps G r xs vs) (lo hi : Option Int) : Reps G r (cut xs lo hi) (cutV vs lo hi) := by
  unfold cut cutV
  rw [clip_ok, ← h.length]
  exact (h.drop _).take _
def rSlX (K : PySem.W.Frag) : V → Option Int → Option Int → Hp → VK → Prop := fun x lo hi H Q => rSlL K x lo hi H Q ∨ rSlA K x lo hi H Q ∨ rSlS x lo hi H Q
theorem sl_X : SlR X (rSlX X.K) := sl_list.or (sl_tupA.or sl_str)
theorem sl_ok (hK : X.K = G.K) {W : WX} {σV : L2.St} {x : D} {vx : V} {lo hi : Option Int} {Q : VK} (l : Rl G r S) (hx : Rep G r x vx) (p : Post G (Rep G) W σV r (slice x lo hi S) Q) : rSlX X.K vx lo hi r.H Q := by
  rw [hK]
  unfold slice at p
  split at p
  · cases hx with
    | tup t s =>
      refine .inr (.inl ⟨_, _, rfl, t.sq, fun hw => ?_, fun hw q hq => ?_⟩)
      · have e : ∀ xs : List D, HT.sIx xs.length 0 lo = 0 ∧ HT.sIx xs.length xs.length hi = xs.length → cut xs lo hi = xs := fun xs ⟨h1, h2⟩ => by
          unfold cut
          rw [clip_ok, h1, h2]
          simp
        rw [← s.length] at hw
        rw [e _ hw] at p
        exact Post.here p l (.tup t s)
      · exact Post.newTup p l (cut_ok s lo hi) hq
  · cases hx
    split at p
    · rename_i hz
      refine .inr (.inr ⟨_, rfl, by rw [txt_length]; exact fits_of hz, ?_⟩)
      rename_i y
      have e : cutS (txt y) lo hi = txt (cut y lo hi) := by
        unfold cutS cut txt
        rw [clip_ok]
        simp [Str.length]
      rw [e]
      exact Post.here p l (.str _)
    · exact False.elim p
  · split at p
    · rename_i ex
      obtain ⟨a, vs, rfl, ra, sa⟩ := lOf_rep l hx ex
      exact .inl ⟨_, _, rfl, .inl ra, fun q hq => Post.newLst p l (cut_ok sa lo hi) hq⟩
    · exact False.elim p
theorem rev_ok (hK : X.K = G.K) {W : WX} {σV : L2.St} {x : D} {vx : V} {Q : VK} (l : Rl G r S) (hx : Rep G r x vx) (p : Post G (Rep G) W σV r (revd x S) Q) :
    ∃ a xs, vx = .ref a ∧ ((SqL X.K r.H a xs ∧ ∀ p, r.H p = none → Q (.ref p) (upd r.H p (.lst xs.reverse))) ∨ (SqT X.K r.H a xs ∧ ∀ p, r.H p = none → Q (.ref p) (upd r.H p (.tup xs.reverse)))) := by
  rw [hK]
  unfold revd at p
  split at p
  · cases hx with
    | tup t s => exact ⟨_, _, rfl, .inr ⟨t.sq, fun q hq => Post.newTup p l s.reverse hq⟩⟩
  · split at p
    · rename_i ex
      obtain ⟨a, vs, rfl, ra, sa⟩ := lOf_rep l hx ex
      exact ⟨_, _, rfl, .inl ⟨.inl ra, fun q hq => Post.newLst p l sa.reverse hq⟩⟩
    · exact False.elim p
end
end DL
end
section
set_option Elab.async false
set_option autoImplicit false
set_option linter.all false
set_option maxRecDepth 100000
set_option maxHeartbeats 2000000
/-! DLt0: int(text) of up to 4300 digits. -/
namespace DL
open PySem PySem.Calls PySem.NumText PySem.W PyProof.Rows
theorem limit_step {M : Model} {A : Around} {E : Value → Shared → Prop} {s : Shared} {Q : Nat → Shared → Prop} (hn : s.heap.NoDigits) (h : Q 4300 s) : wpAny M A Builtin.intMaxStrDigits Q E s := by
  obtain ⟨mc, hns, hnone⟩ := hn
  unfold Builtin.intMaxStrDigits
  refine wpAny_bind (wpAny_nsGet hns ?_)
  rw [hnone]
  exact wpAny_pure h
theorem wp_text2 {M : Model} {A : Around} {E : Value → Shared → Prop} {s : Shared} {Q : Value → Shared → Prop} {v : Value} {text : List Nat} {n : Int} (hn : s.heap.NoDigits)
    (hs : ¬ (text.takeWhile (· != 0)).length ≤ 640) (hr : (int_private% "readNumeral") 4300 10 (text.takeWhile (· != 0)) = (int_private% "Numeral.value") n)
    (ha : ((text.takeWhile (· != 0)).length == text.length) = true) (h : Q (.int n s.toks) { s with toks := s.toks + 1 }) :
    wpAny M A ((int_private% "intFromText") v text 10) Q E s := by
  obtain ⟨hp, g, d, tk, os⟩ := s
  repeat (any_goals (first
    | assumption
    | (with_reducible refine wpAny_ite_false (decide_eq_false hs) ?_)
    | (with_reducible refine wpAny_ite_true (decide_eq_true ha) ?_)
    | (with_reducible refine limit_step hn ?_)
    | wp_step))
  all_goals (try rw [hr])
  all_goals (try dsimp only)
  repeat (any_goals (first
    | assumption
    | (with_reducible refine wpAny_ite_true (decide_eq_true ha) ?_)
    | wp_step))
theorem wp_textA {M : Model} {A : Around} {E : Value → Shared → Prop} {s : Shared} {Q : Value → Shared → Prop} {v : Value} {x : PySem.Str} {n : Int} (hn : s.heap.NoDigits) (hx : x.length ≤ sizeLine) (ht : PySem.intText? x = some n)
    (h : Q (.int n s.toks) { s with toks := s.toks + 1 }) : wpAny M A ((int_private% "intFromText") v (numTextOf x) 10) Q E s := by
  rcases readAny x hx with ⟨m, h1, h2, h3⟩ | ⟨h1, _⟩
  · rw [ht] at h1
    cases h1
    by_cases hs : (numSeenOf x).length ≤ 640
    · refine KIN.wp_text hs ?_ h2 h
      have e : numLimitOf x = 0 := if_pos hs
      rw [e] at h3; exact h3
    · refine wp_text2 hn hs ?_ h2 h
      have e : numLimitOf x = 4300 := if_neg hs
      rw [e] at h3; exact h3
  · rw [ht] at h1; cases h1
structure Hid2 (p : Prop) : Prop where
  out : p
set_option maxHeartbeats 4000000 in
theorem meets_text2 {x : PySem.Str} {u : Tok} {n : Int} (hx : x.length ≤ sizeLine) (ht : PySem.intText? x = some n) :
    Meets (Builtin.«int.__new__» ⟨[.type "int", .str x u], []⟩) (fun _ R s => s.heap.NoDigits ∧ R (.ok (.ret (.int n s.toks))) { s with toks := s.toks + 1 }) := fun prog w A R s h => by
  obtain ⟨hn, h⟩ := h
  obtain ⟨hp, g, d, tk, os⟩ := s
  have f1 := F.conv_sub_int
  have f2 := F.madeHere_int
  have f3 := KIN.str_int
  have f4 := KIN.str_idx
  have f5 := KIN.str_trunc
  have f6 : typeOf (.str x u) = pure (.type "str") := rfl
  have hk := Hid2.mk (And.intro hx ht)
  clear hx ht
  repeat (any_goals (first
    | assumption
    | ((with_reducible show wpAny _ _ ((int_private% "intFromText") _ _ _) _ _ _); refine wp_textA hn hk.out.1 hk.out.2 ?_)
    | wp_step))
theorem call_text2 {prog : Program} {w : World} {A : Around} {E : Value → Shared → Prop} {s : Shared} {Q : Value → Shared → Prop} {x : PySem.Str} {t : Tok} {n : Int} (hd : s.heap.NoDigits) (hn : PySem.intText? x = some n) (hx : x.length ≤ sizeLine)
    (h : Q (.int n s.toks) { s with toks := s.toks + 1 }) : wpAny (model prog w) A (call (.type "int") [.str x t]) Q E s :=
  call_int_1 (meets_text2 hx hn) ⟨hd, ⟨typeIs_int _ _ _, h⟩⟩
end DL
end
section
set_option Elab.async false
set_option autoImplicit false
set_option linter.all false
set_option maxRecDepth 100000
set_option maxHeartbeats 2000000
/-! DLg: built-in functions. -/
namespace DL
open PySem PySem.Spec PyProof.Rows L2

/-! ### the text of an integer -/
theorem digitChar_nat : ∀ n : Nat, n < 10 → (Nat.digitChar n).toNat = 48 + n := by decide
theorem digits_core : ∀ (fuel n : Nat) (cs : List Char) (acc : List Nat) (f2 : Nat), acc = cs.map Char.toNat → n < fuel → n < 2 ^ f2 → 0 < f2 → (Nat.toDigitsCore 10 fuel n cs).map Char.toNat = digitsN f2 n acc := by
  intro fuel
  induction fuel with
  | zero => intro n cs acc f2 _ h; omega
  | succ fuel ih =>
    intro n cs acc f2 ha hf h2 h0
    unfold Nat.toDigitsCore
    cases f2 with
    | zero => omega
    | succ k =>
      unfold digitsN
      simp only
      have hd := digitChar_nat (n % 10) (Nat.mod_lt _ (by decide))
      by_cases hn : n / 10 = 0
      · rw [if_pos hn, if_pos hn, List.map_cons, hd, ha]
      · rw [if_neg hn, if_neg hn]
        have h3 : n / 10 < 2 ^ k := by
          rw [Nat.pow_succ] at h2
          omega
        refine ih (n / 10) _ _ k (by rw [List.map_cons, hd, ha]) (by omega) h3 ?_
        cases k with
        | zero => simp at h3; omega
        | succ k => omega
theorem repr_nat (n : Nat) : (Nat.toDigits 10 n).map Char.toNat = digitsN (n.log2 + 1) n [] := by
  unfold Nat.toDigits
  exact digits_core (n + 1) n [] [] _ rfl (Nat.lt_succ_self n) Nat.lt_log2_self (Nat.succ_pos _)
theorem toString_txt (i : Int) : (Str.ofString (toString i)) = txt (intText i) := by
  rw [Str.ofString_eq_toList]
  unfold txt intText
  congr 1
  cases i with
  | ofNat n =>
    have h : ¬ (Int.ofNat n < 0) := by simp
    rw [if_neg h]
    show (((Nat.repr n).toList.map Char.toNat)).toArray = _
    unfold Nat.repr
    rw [String.toList_ofList, repr_nat]
    rfl
  | negSucc n =>
    have h : Int.negSucc n < 0 := Int.negSucc_lt_zero n
    rw [if_pos h]
    show ((("-" ++ Nat.repr (Nat.succ n)).toList.map Char.toNat)).toArray = _
    unfold Nat.repr
    rw [String.toList_append, List.map_append, String.toList_ofList, String.toList_ofList, repr_nat]
    rfl
/-- a built-in's rule tells what bi tells -/
def BS (G : Glob) (X : Cx) (f : Value) (b : Bi) : Prop :=
  ∃ rr : List V → Hp → VK → Prop, CallR X f rr ∧ ∀ (W : WX) (σV : L2.St) (ds : List D) (S : Store) (r : RS) (vs : List V) (Q : VK), Rl G r S → Reps G r ds vs → Post G (Rep G) W σV r (bi b ds S) Q → rr vs r.H Q
section
variable {X : Cx} {G : Glob} {r : RS} {S : Store}
theorem bools_ok : ∀ {ds : List D} {vs : List V} {bs : List Bool}, Reps G r ds vs → boolsOf ds = some bs → vs = bs.map V.bl
  | [], _, _, h, e => by cases h; cases e; rfl
  | d :: ds, _, bs, h, e => by
    cases h with
    | cons h1 h2 =>
      cases d with
      | bl b =>
        cases h1
        unfold boolsOf at e
        cases q : boolsOf ds with
        | none => rw [q] at e; cases e
        | some cs =>
          rw [q] at e
          cases e
          rw [bools_ok h2 q]; rfl
      | _ => cases e
theorem bs1 {f : Value} {b : Bi} {op : D → Store → Out D} {rr : List V → Hp → VK → Prop} (hb : bi b = on1 op) (hr : CallR X f rr)
    (h : ∀ (W : WX) (σV : L2.St) (d : D) (S : Store) (r : RS) (v : V) (Q : VK), Rl G r S → Rep G r d v → Post G (Rep G) W σV r (op d S) Q → rr [v] r.H Q) : BS G X f b := by
  refine ⟨_, hr, fun W σV ds S r vs Q l q p => ?_⟩
  rw [hb] at p
  cases q with
  | nil => exact False.elim p
  | cons h1 h2 =>
    cases h2 with
    | nil => exact h W σV _ S r _ Q l h1 p
    | cons _ _ => exact False.elim p
theorem bs2 {f : Value} {b : Bi} {op : D → D → Store → Out D} {rr : List V → Hp → VK → Prop} (hb : bi b = on2 op) (hr : CallR X f rr)
    (h : ∀ (W : WX) (σV : L2.St) (d e : D) (S : Store) (r : RS) (v w : V) (Q : VK), Rl G r S → Rep G r d v → Rep G r e w → Post G (Rep G) W σV r (op d e S) Q → rr [v, w] r.H Q) : BS G X f b := by
  refine ⟨_, hr, fun W σV ds S r vs Q l q p => ?_⟩
  rw [hb] at p
  cases q with
  | nil => exact False.elim p
  | cons h1 h2 =>
    cases h2 with
    | nil => exact False.elim p
    | cons h2 h3 =>
      cases h3 with
      | nil => exact h W σV _ _ S r _ _ Q l h1 h2 p
      | cons _ _ => exact False.elim p
theorem bs_abs : BS G X (.builtin "abs") .abs := by
  refine bs1 rfl call_abs fun W σV d S r v Q l h p => ?_
  cases h <;> first | exact False.elim p | exact ⟨_, rfl, Post.here p l (.int _)⟩
theorem bs_all (hK : X.K = G.K) (hc : X.calm = true) : BS G X (.builtin "all") .all := by
  refine bs1 rfl (cr_all hc) fun W σV d S r v Q l h p => ?_
  unfold allD at p
  rw [hK]
  cases e : lOf d S with
  | none => rw [e] at p; exact False.elim p
  | some xs =>
    rw [e] at p
    obtain ⟨a, vs, rfl, ra, sa⟩ := lOf_rep l h e
    cases e2 : boolsOf xs with
    | none =>
      have p : Post G (Rep G) W σV r (match boolsOf xs with | some bs => Out.ok (.bl (bs.all id)) S | none => .bad) Q := p
      rw [e2] at p; exact False.elim p
    | some bs =>
      have p : Post G (Rep G) W σV r (match boolsOf xs with | some bs => Out.ok (.bl (bs.all id)) S | none => .bad) Q := p
      rw [e2] at p
      have eb := bools_ok sa e2
      subst eb
      exact ⟨a, bs, rfl, .inl ra, Post.here p l (.bl _)⟩
theorem bs_any (hK : X.K = G.K) (hc : X.calm = true) : BS G X (.builtin "any") .any := by
  refine bs1 rfl (cr_any hc) fun W σV d S r v Q l h p => ?_
  unfold anyD at p
  rw [hK]
  cases e : lOf d S with
  | none => rw [e] at p; exact False.elim p
  | some xs =>
    rw [e] at p
    obtain ⟨a, vs, rfl, ra, sa⟩ := lOf_rep l h e
    cases e2 : boolsOf xs with
    | none =>
      have p : Post G (Rep G) W σV r (match boolsOf xs with | some bs => Out.ok (.bl (bs.any id)) S | none => .bad) Q := p
      rw [e2] at p; exact False.elim p
    | some bs =>
      have p : Post G (Rep G) W σV r (match boolsOf xs with | some bs => Out.ok (.bl (bs.any id)) S | none => .bad) Q := p
      rw [e2] at p
      have eb := bools_ok sa e2
      subst eb
      exact ⟨a, bs, rfl, .inl ra, Post.here p l (.bl _)⟩
theorem bs_divmod : BS G X (.builtin "divmod") .divmod := by
  refine bs2 rfl call_divmod fun W σV d e S r v w Q l h h' p => ?_
  unfold divmodD at p
  split at p
  · cases h; cases h'
    split at p
    · rename_i hz
      rw [Bool.and_eq_true, decide_eq_true_eq, decide_eq_true_eq] at hz
      exact ⟨_, _, rfl, hz, fun q hq => Post.newTup p l (.cons (.int _) (.cons (.int _) .nil)) hq⟩
    · exact False.elim p
  · exact False.elim p
/-- a name that a written dict does not hold -/
theorem ns_none {K : PySem.W.Frag} {h : Heap} {a : Addr} {m : Str → Option Value} {n : Str} (kin : K.In h) (ns : h.Ns a m) (e : PySem.W.nsIn K a n = some none) : m n = none := by
  obtain ⟨o, es, ep, ho, hd, _, hf⟩ := ns
  unfold PySem.W.nsIn at e
  cases q : K.lookup a with
  | none => rw [q] at e; cases e
  | some o' =>
    have h1 := kin _ _ q
    rw [ho] at h1
    cases h1
    obtain ⟨c, d, dt, sl⟩ := o
    cases hd
    rw [q] at e
    dsimp only at e
    rw [← hf]
    unfold nsFind findBy
    rw [← Array.find?_toList]
    cases w : es.toList.find? (fun x => x.key.isStr n) with
    | some en => rw [w] at e; cases e
    | none => rfl
theorem Inv.noDigits {pins : List (Addr × Obj)} {σ : L2.St} {H : Hp} {s : Shared} (I : Inv X pins σ H s) (hd : PySem.W.nsIn X.K cStatics "sys.int_max_str_digits" = some none) : s.heap.NoDigits := by
  obtain ⟨mc, h1, _⟩ := I.ok.mod.nolimit
  have h2 : s.heap.Ns cStatics mc := h1.keeps I.bk
  exact ⟨mc, h2, ns_none I.kIn h2 hd⟩
theorem call_int_str2 (hd : PySem.W.nsIn X.K cStatics "sys.int_max_str_digits" = some none) : CallR X (.type "int") (fun xs H Q => ∃ a n, xs = [.str a] ∧ PySem.intText? a = some n ∧ a.length ≤ sizeLine ∧ Q (.int n) H) := by
  intro pins s σ H xs us Q I rs h
  obtain ⟨a, n, rfl, hn, hl, h⟩ := h
  cases rs with
  | cons r1 rs =>
    cases rs
    obtain ⟨t, rfl⟩ := r1
    exact call_text2 (Inv.noDigits I hd) hn hl ⟨.int n, H, I.tok _, ⟨_, rfl⟩, h⟩
theorem intOf_ok {x : List Nat} {n : Nat} (h : intOf x = some n) : PySem.intText? (txt x) = some (n : Int) ∧ (txt x).length ≤ sizeLine := by
  unfold intOf at h
  split at h
  · rename_i q
    simp only [Bool.and_eq_true, List.all_eq_true, Bool.not_eq_true', List.isEmpty_eq_false_iff] at q
    obtain ⟨⟨q1, q2⟩, q3⟩ := q
    cases h
    have e : (txt x).cps.toList = x := by simp [txt]
    refine ⟨?_, ?_⟩
    · rw [intText_digits (x := txt x) (by rw [e]; intro c hc; exact ⟨Nat.le_of_ble_eq_true (q1 c hc).1, Nat.le_of_ble_eq_true (q1 c hc).2⟩) (by rw [e]; exact q2) (by rw [txt_length]; exact isOk q3), e]
      rfl
    · rw [txt_length]
      exact Nat.le_trans (isOk q3) (by decide)
  · cases h
theorem bs_int (hd : PySem.W.nsIn X.K cStatics "sys.int_max_str_digits" = some none) : BS G X (.type "int") .int := by
  refine bs1 rfl (CallR.or call_int1 (call_int_str2 hd)) fun W σV d S r v Q l h p => ?_
  cases h with
  | int i => exact .inl (.inl ⟨_, rfl, Post.here p l (.int _)⟩)
  | bl b => exact .inl (.inr ⟨_, rfl, Post.here p l (.int _)⟩)
  | str x =>
    have p : Post G (Rep G) W σV r (match intOf x with | some n => .ok (.int n) S | none => .bad) Q := p
    split at p
    · rename_i n e
      obtain ⟨h1, h2⟩ := intOf_ok e
      exact .inr ⟨_, _, rfl, h1, h2, Post.here p l (.int _)⟩
    · exact False.elim p
  | _ => exact False.elim p
theorem bs_bool : BS G X (.type "bool") .bool := by
  refine bs1 rfl call_bool1 fun W σV d S r v Q l h p => ?_
  cases h <;> first | exact False.elim p | exact .inl ⟨_, rfl, Post.here p l (.bl _)⟩ | exact .inr ⟨_, rfl, Post.here p l (.bl _)⟩
theorem call_str_str : CallR X (.type "str") (fun xs H Q => ∃ a, xs = [.str a] ∧ Q (.str a) H) := by
  intro pins s σ H xs us Q I r h
  obtain ⟨a, rfl, q⟩ := h
  obtain ⟨u, rfl, t, rfl⟩ := vals1 r
  exact PySem.P.str_of_str ⟨.str a, H, I, ⟨t, rfl⟩, q⟩
theorem bs_str : BS G X (.type "str") .str := by
  refine bs1 rfl (call_str_int.or call_str_str) fun W σV d S r v Q l h p => ?_
  unfold strD at p
  split at p
  · cases h
    split at p
    · rename_i hz
      refine .inl ⟨_, rfl, Nat.lt_succ_of_le (isOk hz), ?_⟩
      show Q (.str (Str.ofString _)) r.H
      rw [toString_txt]
      exact Post.here p l (.str _)
    · exact False.elim p
  · cases h
    exact .inr ⟨_, rfl, Post.here p l (.str _)⟩
  · exact False.elim p
theorem bs_len (hK : X.K = G.K) : BS G X (.builtin "len") .len := by
  refine bs1 rfl call_len fun W σV d S r v Q l h p => ?_
  rw [hK]
  unfold lenD at p
  cases e : lenOf d S with
  | none => rw [e] at p; exact False.elim p
  | some n =>
    rw [e] at p
    refine ⟨v, n, rfl, ?_, Post.here p l (.int _)⟩
    unfold lenOf at e
    split at e
    · cases h with
      | tup t s => cases e; exact .inr ⟨_, t.sq, s.length⟩
    · cases h with
      | scr f => cases e; exact .inl ⟨_, f.sq, by rw [List.length_map]⟩
    · cases h
      split at e
      · rename_i hz
        cases e
        exact ⟨by rw [txt_length]; exact fits_of hz, (txt_length _).symm⟩
      · cases e
    · cases ex : lOf d S with
      | none => rw [ex] at e; cases e
      | some xs =>
        rw [ex] at e
        cases e
        obtain ⟨a, vs, rfl, ra, sa⟩ := lOf_rep l h ex
        exact .inl ⟨vs, .inl ra, sa.length⟩
theorem bs_list (hK : X.K = G.K) : BS G X (.type "list") .list := by
  refine bs1 rfl call_list_of fun W σV d S r v Q l h p => ?_
  rw [hK]
  unfold listD at p
  cases e : seqOf d S with
  | none => rw [e] at p; exact False.elim p
  | some xs =>
    rw [e] at p
    obtain ⟨a, vs, rfl, q, sa⟩ := seqOf_rep l h e
    refine ⟨a, vs, rfl, ?_, fun q hq => Post.newLst p l sa hq⟩
    rcases q with ⟨q, _⟩ | ⟨q, _⟩
    · exact .inl (.inl q)
    · exact .inr q.sq
theorem bs_tuple (hK : X.K = G.K) : BS G X (.type "tuple") .tuple := by
  refine bs1 rfl call_tuple_of fun W σV d S r v Q l h p => ?_
  rw [hK]
  unfold tupleD at p
  cases e : seqOf d S with
  | none => rw [e] at p; exact False.elim p
  | some xs =>
    rw [e] at p
    obtain ⟨a, vs, rfl, q, sa⟩ := seqOf_rep l h e
    refine ⟨a, vs, rfl, ?_⟩
    rcases q with ⟨q, _⟩ | ⟨q, ed⟩
    · exact .inl ⟨.inl q, fun q hq => Post.newTup p l sa hq⟩
    · exact .inr ⟨q.sq, Post.here p l (.tup q sa)⟩
theorem bs_max (hc : X.calm = true) : BS G X (.builtin "max") .max := by
  refine bs2 rfl (call_max2 hc) fun W σV d e S r v w Q l h h' p => ?_
  unfold maxD at p
  split at p
  · cases h; cases h'
    exact ⟨_, _, rfl, Post.here p l (.int _)⟩
  · exact False.elim p
theorem bs_min (hc : X.calm = true) : BS G X (.builtin "min") .min := by
  refine bs2 rfl (call_min2 hc) fun W σV d e S r v w Q l h h' p => ?_
  unfold minD at p
  split at p
  · cases h; cases h'
    exact ⟨_, _, rfl, Post.here p l (.int _)⟩
  · exact False.elim p
theorem ints_ok : ∀ {ds : List D} {vs : List V} {r : RS} {is : List Int}, Reps G r ds vs → intsOf ds = some is → vs = is.map V.int
  | [], _, _, _, .nil, h => by cases h; rfl
  | .int i :: ds, _, _, is, .cons h hs, e => by
    unfold intsOf at e
    cases q : intsOf ds with
    | none => rw [q] at e; cases e
    | some us =>
      rw [q] at e; cases e
      cases h
      rw [ints_ok hs q]; rfl
  | .non :: _, _, _, _, _, e => by cases e
  | .bl _ :: _, _, _, _, _, e => by cases e
  | .str _ :: _, _, _, _, _, e => by cases e
  | .tup _ :: _, _, _, _, _, e => by cases e
  | .lst _ :: _, _, _, _, _, e => by cases e
  | .ref _ :: _, _, _, _, _, e => by cases e
  | .fn _ :: _, _, _, _, _, e => by cases e
  | .exn _ _ :: _, _, _, _, _, e => by cases e
  | .scr _ :: _, _, _, _, _, e => by cases e
  | .dic :: _, _, _, _, _, e => by cases e
theorem leastI_le : ∀ (m : Int) (is : List Int), leastI m is ≤ m ∧ (∀ i ∈ is, leastI m is ≤ i) ∧ (leastI m is = m ∨ leastI m is ∈ is)
  | m, [] => by simp [leastI]
  | m, i :: is => by
    obtain ⟨h1, h2, h3⟩ := leastI_le (if i < m then i else m) is
    unfold leastI
    by_cases hm : i < m
    · rw [if_pos hm] at h1 h2 h3 ⊢
      refine ⟨by omega, fun j hj => ?_, ?_⟩
      · rcases List.mem_cons.mp hj with rfl | hj
        · exact h1
        · exact h2 j hj
      · rcases h3 with h3 | h3
        · exact .inr (by rw [h3]; exact List.mem_cons_self)
        · exact .inr (List.mem_cons_of_mem _ h3)
    · rw [if_neg hm] at h1 h2 h3 ⊢
      refine ⟨h1, fun j hj => ?_, ?_⟩
      · rcases List.mem_cons.mp hj with rfl | hj
        · omega
        · exact h2 j hj
      · rcases h3 with h3 | h3
        · exact .inl h3
        · exact .inr (List.mem_cons_of_mem _ h3)
theorem bs_minl (hK : X.K = G.K) (hc : X.calm = true) : BS G X (.builtin "min") .minl := by
  refine bs1 rfl (cr_min hc) fun W σV d S r v Q l h p => ?_
  rw [hK]
  unfold minlD at p
  cases e : lOf d S with
  | none => rw [e] at p; exact False.elim p
  | some xs =>
    rw [e] at p
    dsimp only [Option.bind] at p
    split at p
    · rename_i i is e2
      obtain ⟨a, vs, rfl, ra, sa⟩ := lOf_rep l h e
      obtain ⟨l1, l2, l3⟩ := leastI_le i is
      have ev := ints_ok sa e2
      refine ⟨a, i :: is, rfl, .inl (by rw [← ev]; exact ra), by simp, fun m hm hle => ?_⟩
      have : m = leastI i is := by
        have h1 : leastI i is ≤ m := by
          rcases List.mem_cons.mp hm with rfl | hm
          · exact l1
          · exact l2 m hm
        have h2 : m ≤ leastI i is := by
          rcases l3 with l3 | l3
          · rw [l3]; exact hle i List.mem_cons_self
          · exact hle _ (List.mem_cons_of_mem _ l3)
        omega
      rw [this]
      exact Post.here p l (.int _)
    · exact False.elim p
/-! ### isinstance -/
def tyN : Ty → String
  | .non => "NoneType"
  | .bool => "bool"
  | .int => "int"
  | .str => "str"
  | .tup => "tuple"
  | .lst => "list"
  | .dict => "dict"
def dTy : D → Option Ty
  | .non => some .non
  | .bl _ => some .bool
  | .int _ => some .int
  | .str _ => some .str
  | .tup _ => some .tup
  | .lst _ => some .lst
  | .ref _ => some .lst
  | .dic => some .dict
  | _ => none
theorem tyx_ok (l : Rl G r S) (hS : ∀ n : Nat, r.mu[n]? ≠ none → S[n]? ≠ none) {d : D} {v : V} {t : Ty} (h : Rep G r d v) (e : dTy d = some t) : TyX G.K r.H v (.type (tyN t)) := by
  cases h with
  | non => cases e; exact .base .non
  | bl b => cases e; exact .base (.bl b)
  | int i => cases e; exact .base (.int i)
  | str x => cases e; exact .base (.str _)
  | tup q s =>
    cases e
    rcases q with ⟨q, _⟩ | ⟨o, its, n, a, b, _⟩
    · rcases q with q | ⟨o, q⟩
      · exact .base (.tup q)
      · exact .fTuple q
    · exact .kTuple a b
  | lst q _ _ =>
    cases e
    rcases q with q | ⟨o, q⟩
    · exact .base (.lst q)
    · exact .base (.frz q)
  | ref q =>
    cases e
    rename_i n a
    cases ex : S[n]? with
    | none => exact absurd ex (hS n (by rw [q]; exact Option.some_ne_none _))
    | some xs =>
      obtain ⟨b, vs, h1, h2, _⟩ := l.obj n xs ex
      rw [q] at h1; cases h1
      exact .base (.lst h2)
  | dic h z => cases e; exact .base (.dK h)
  | _ => cases e
def tyLe : Ty → Ty → Bool
  | .bool, .int => true
  | a, b => decide (a = b)
theorem ty_kit : ∀ a b : Ty, kitB (tyN a) (tyN b) = some (tyLe a b) := by
  intro a b
  cases a <;> cases b <;> decide +kernel
theorem tyIs_eq {d : D} {t : Ty} (e : dTy d = some t) (u : Ty) (hu : u ≠ .non) : tyIs d u = tyLe t u := by
  cases d <;> cases e <;> cases u <;> first | rfl | exact absurd rfl hu
theorem mu_len (l : Rl G r S) : ∀ n : Nat, r.mu[n]? ≠ none → S[n]? ≠ none := fun n h q => by
  rw [List.getElem?_eq_none_iff] at q
  exact h (List.getElem?_eq_none_iff.mpr (by rw [l.len]; exact q))
theorem kitAny_tys {K : PySem.W.Frag} {d : D} {t : Ty} (e : dTy d = some t) : ∀ us : List Ty, (∀ u ∈ us, u ≠ .non) → PySem.W.kitAny K (.type (tyN t)) (us.map fun u => Value.type (tyN u)) = some (us.any fun u => tyIs d u)
  | [], _ => rfl
  | u :: us, h => by
    rw [List.map_cons, List.any_cons]
    refine kitAny_cons (b := tyIs d u) ?_ (fun hb => ?_) (fun hb => ?_)
    · rw [tyIs_eq e u (h u List.mem_cons_self)]
      exact kit_ty (ty_kit t u)
    · rw [hb, Bool.false_or]
      exact kitAny_tys e us fun w hw => h w (List.mem_cons_of_mem _ hw)
    · rw [hb, Bool.true_or]
theorem isD_ok {ts : List Ty} {d : D} {W : WX} {σV : L2.St} {v : V} {Q : VK} (h : Rep G r d v) (p : Post G (Rep G) W σV r (isD ts d S) Q) : ∃ t, dTy d = some t ∧ Post G (Rep G) W σV r (.ok (.bl (ts.any fun u => tyIs d u)) S) Q := by
  cases h <;> first | exact False.elim p | exact ⟨_, rfl, p⟩
end
end DL
end
section
set_option Elab.async false
set_option autoImplicit false
set_option linter.all false
set_option maxRecDepth 100000
set_option maxHeartbeats 2000000
/-! DLs: a text split at one sign. -/
namespace DL
open PySem PySem.Builtin PySem.Builtin.Str
def tx (x : List Nat) : Str := ⟨x.toArray⟩
theorem tx_len (x : List Nat) : (tx x).length = x.length := by simp [tx, Str.length]
theorem sub_one (x : List Nat) (c i : Nat) : subAt (tx x) (tx [c]) i = decide (x[i]? = some c) := by
  have e : (tx x).cps.extract i (i + (tx [c]).length) = ((x.drop i).take 1).toArray := by
    rw [tx_len]
    simp [tx, List.extract_toArray, List.extract_eq_drop_take]
  unfold subAt
  rw [e]
  cases h : x[i]? with
  | none =>
    have hl : x.length ≤ i := List.getElem?_eq_none_iff.mp h
    rw [List.drop_eq_nil_of_le hl]
    simp [tx]
  | some d =>
    obtain ⟨hl, rfl⟩ := List.getElem?_eq_some_iff.mp h
    have e2 : (x.drop i).take 1 = [x[i]] := by rw [List.drop_eq_getElem_cons hl]; rfl
    rw [e2]
    by_cases hd : x[i] = c <;> simp [tx, hd]
/-- where the sign stands -/
def occL (x : List Nat) (c k m : Nat) : List Nat := (List.range' k m).filter fun i => decide (x[i]? = some c)
theorem occ_go (x : List Nat) (c lim : Nat) : ∀ (m k free : Nat) (found : Array Nat), free ≤ k → found.size + m ≤ lim → k + m ≤ x.length + 1 →
    (forIn (m := Id) (List.range' k m) (found, free) (StrLaws.occBody (tx x) (tx [c]) (tx x).length lim)).run.fst.toList = found.toList ++ occL x c k m
  | 0, k, free, found, _, _, _ => by simp [occL]
  | m + 1, k, free, found, h1, h2, h3 => by
    rw [List.range'_succ, List.forIn_cons]
    unfold StrLaws.occBody
    rw [sub_one, tx_len, tx_len]
    by_cases hc : x[k]? = some c
    · have hl : k < x.length := (List.getElem?_eq_some_iff.mp hc).1
      rw [if_pos ⟨⟨⟨by show found.size < lim; omega, h1⟩, by simp; omega⟩, decide_eq_true hc⟩]
      show (forIn (m := Id) (List.range' (k + 1) m) (found.push k, k + 1) (StrLaws.occBody (tx x) (tx [c]) x.length lim)).run.fst.toList = _
      have := occ_go x c lim m (k + 1) (k + 1) (found.push k) (Nat.le_refl _) (by simp; omega) (by omega)
      rw [tx_len] at this
      rw [this]
      simp [occL, List.range'_succ, hc]
    · rw [if_neg (by rintro ⟨_, z⟩; exact hc (of_decide_eq_true z))]
      show (forIn (m := Id) (List.range' (k + 1) m) (found, free) (StrLaws.occBody (tx x) (tx [c]) x.length lim)).run.fst.toList = _
      have := occ_go x c lim m (k + 1) free found (by omega) (by omega) (by omega)
      rw [tx_len] at this
      rw [this]
      simp [occL, List.range'_succ, hc]
theorem occ_all (x : List Nat) (c : Nat) : occurrences (tx x) (tx [c]) 0 (tx x).length ((tx x).length + 1) = occL x c 0 (x.length + 1) := by
  rw [StrLaws.occ_eq]
  have := occ_go x c ((tx x).length + 1) (x.length + 1) 0 0 #[] (Nat.le_refl _) (by rw [tx_len]; simp) (by omega)
  rw [tx_len] at this ⊢
  simpa using this
theorem sub_cut (x : List Nat) (a k : Nat) (h : a ≤ k) : strSub (tx x) a k = tx ((x.drop a).take (k - a)) := by
  unfold strSub tx
  simp [List.extract_toArray, List.extract_eq_drop_take]
/-- the parts, from the left -/
theorem parts_go (x : List Nat) (c : Nat) : ∀ (m a k : Nat), a ≤ k → k + m = x.length →
    (((a :: (occL x c k m).map (· + 1)).zip (occL x c k m ++ [x.length])).map fun (p : Nat × Nat) => strSub (tx x) p.1 p.2) = (splitL c (x.drop k) ((x.drop a).take (k - a)).reverse).map tx
  | 0, a, k, h1, h2 => by
    have e : x.drop k = [] := List.drop_eq_nil_of_le (by omega)
    have hk : k = x.length := by omega
    rw [e]
    subst hk
    simp [occL, splitL, sub_cut x a _ h1]
  | m + 1, a, k, h1, h2 => by
    have hl : k < x.length := by omega
    rw [List.drop_eq_getElem_cons hl]
    have eo : occL x c k (m + 1) = (if x[k]? = some c then [k] else []) ++ occL x c (k + 1) m := by
      unfold occL
      rw [List.range'_succ, List.filter_cons]
      by_cases hc : x[k]? = some c <;> simp [hc]
    have ek : x[k]? = some x[k] := List.getElem?_eq_getElem hl
    rw [eo, ek]
    by_cases hc : x[k] = c
    · have := parts_go x c m (k + 1) (k + 1) (Nat.le_refl _) (by omega)
      rw [if_pos (by rw [hc])]
      simp only [List.singleton_append, List.map_cons, List.cons_append, List.zip_cons_cons, List.nil_append]
      rw [splitL, if_pos hc, List.map_cons, List.reverse_reverse, this, sub_cut x a k h1]
      simp
    · have := parts_go x c m a (k + 1) (by omega) (by omega)
      rw [if_neg (by intro z; exact hc (Option.some.inj z))]
      rw [List.nil_append, this, splitL, if_neg hc]
      congr 2
      have e2 : (x.drop a).take (k + 1 - a) = (x.drop a).take (k - a) ++ [x[k]] := by
        have : k + 1 - a = (k - a) + 1 := by omega
        rw [this, List.take_add_one]
        have hg : (x.drop a)[k - a]? = some x[k] := by
          rw [List.getElem?_drop]
          have : a + (k - a) = k := by omega
          rw [this, ek]
        rw [hg]; rfl
      rw [e2]
      simp
theorem occL_end (x : List Nat) (c : Nat) : occL x c 0 (x.length + 1) = occL x c 0 x.length := by
  unfold occL
  rw [List.range'_concat, List.filter_append]
  simp
theorem split_ok (x : List Nat) (c : Nat) : Txt.split (tx x) (tx [c]) = (splitL c x []).map tx := by
  have h1 : Txt.split (tx x) (tx [c]) = partsBetween (tx x) (occurrences (tx x) (tx [c]) 0 (tx x).length ((tx x).length + 1)) (tx [c]).length := by
    unfold Txt.split
    split
    · rename_i h
      rw [PySem.W.occ_nil_of_no (tx x) (tx [c]) _ fun i hi => ?_, PySem.W.parts_nil]
      rcases Bool.or_eq_true_iff.mp h with h | h
      · have := of_decide_eq_true h; omega
      · cases e : subAt (tx x) (tx [c]) i
        · rfl
        · have := PySem.W.kind_le (tx x) (tx [c]) e; have := of_decide_eq_true h; omega
    · split
      · rename_i h; rw [List.isEmpty_iff.mp h, PySem.W.parts_nil]
      · rfl
  rw [h1, occ_all, occL_end]
  have := parts_go x c x.length 0 0 (Nat.le_refl _) (by omega)
  unfold partsBetween
  rw [tx_len, tx_len]
  simp at this ⊢
  exact this
end DL
end
section
set_option Elab.async false
set_option autoImplicit false
set_option linter.all false
set_option maxRecDepth 100000
set_option maxHeartbeats 2000000
/-! DLh: the nodes of an expression. -/
namespace DL
open PySem PySem.Spec PyProof.Rows L2

/-- what is known of the place -/
structure Cenv where
  N : List Str
  sc : Scope
  so : Scope
  fns : List Str
  cons : List Str
def spD (G : Glob) (cl : Cl) (g : Nat) : Sp := fun vs H Q E => ∃ ds S r, r.H = H ∧ Rl G r S ∧ Reps G r ds vs ∧ Post G (Rep G) (fun c d _ H => E c d H) [] r (cl g ds S) Q
def bltNames : List Str := ["abs", "all", "any", "divmod", "int", "str", "isinstance", "len", "list", "max", "min", "tuple", "repr", "bool", "range", "zip", "enumerate", "dict"]
structure XOk (G : Glob) (Γ : Cenv) (X : Cx) (W : WX) (cl : Cl) (gc : List D) : Prop where
  hK : X.K = G.K
  hN : X.N = Γ.N
  nd : Γ.N.Nodup
  sc : X.env.scope = Γ.sc
  fn : ∀ x, Γ.so.names.lookup x = some .cell → X.fn x = true
  calm : X.calm = true
  un : X.A.units + 64 < cLine
  dig : PySem.W.nsIn X.K cStatics "sys.int_max_str_digits" = some none
  tk : Takes X W
  fns : ∀ (g : Nat) (x : Str), Γ.fns[g]? = some x → X.mg x = some (.ref (G.fnA g)) ∧ PySem.W.keepIn X.K (.ref (G.fnA g)) = true ∧ ∃ n fd ps, Room n X.A ∧ FnOk X.prog X.w X.K X.mg X.base (L2.CX X.prog X.w) n (G.fnA g) fd ps (spD G cl g) ∧ Binds X.K fd ps []
  cons : ∀ (k : Nat) (x : Str) (d : D), Γ.cons[k]? = some x → gc[k]? = some d → ∃ u v, X.mg x = some u ∧ RelV v u ∧ ∀ r, Rep G r d v
  blt : ∀ x ∈ bltNames, X.mg x = none
def visB (sc : Scope) (x : Str) : Bool := match sc.names.lookup x with
  | some .local | some .cell | some .free => true
  | _ => false
def glB (sc : Scope) (x : Str) : Bool := match sc.names.lookup x with
  | some .globalImplicit => true
  | _ => false
def okN (x : Str) : Bool := !(x == ("__debug__" : Str)) && !(x == ("__classdict__" : Str))
theorem vis_of {sc : Scope} {x : Str} (h : visB sc x = true) : Vis sc x := by
  unfold visB at h
  unfold Vis
  split at h
  · exact .inl (by assumption)
  · exact .inr (.inl (by assumption))
  · exact .inr (.inr (by assumption))
  · cases h
theorem gl_of {X : Cx} {x : Str} (h : glB X.env.scope x = true) : Gl X x := by
  unfold glB at h
  unfold Gl Env.kindOf
  split at h
  · assumption
  · cases h
theorem okN_d {x : Str} (h : okN x = true) : (x == ("__debug__" : Str)) = false := by
  unfold okN at h
  cases q : (x == ("__debug__" : Str)) with
  | false => rfl
  | true => rw [q] at h; simp at h
theorem okN_c {x : Str} (h : okN x = true) : (x == ("__classdict__" : Str)) = false := by
  unfold okN at h
  cases q : (x == ("__classdict__" : Str)) with
  | false => rfl
  | true => rw [q] at h; simp at h
/-- not starred -/
def noStar : Expr → Bool
  | .Starred _ _ => false
  | _ => true
theorem starEach_cons {e : Expr} {es : List Expr} {env : PySem.Env} (h : noStar e = true) : starEach (e :: es) env = (false, eval e env) :: starEach es env := by
  cases e <;> first | rfl | cases h
theorem any_cons {pos : Pos} {t : Sem Value} {es : List (Bool × Sem Value)} : (backTo pos ((false, t) :: es)).any (·.1) = (backTo pos es).any (·.1) := by
  cases es with
  | nil => rfl
  | cons a b => rfl
theorem any_star : ∀ {es : List Expr} {env : PySem.Env} {pos : Pos}, es.all noStar = true → (backTo pos (starEach es env)).any (·.1) = false
  | [], _, _, _ => rfl
  | e :: es, env, pos, h => by
    rw [List.all_cons, Bool.and_eq_true] at h
    rw [starEach_cons h.1, any_cons]
    exact any_star h.2

section
variable {X : Cx} {G : Glob} {W : WX}
theorem PI.mono {tg e : Expr} {t t' : TI} (h : PI X tg e t) (q : ∀ σ H Q, t' σ H Q → t σ H Q) : PI X tg e t' := ⟨fun pins s σ H Q I z => h.run pins s σ H Q I (q σ H Q z)⟩
/-- what is known already, as a reading -/
theorem tX.val {α β : Type} {rel : RS → α → β → Prop} {f : Env → Store → Out α} {σV : L2.St} {H : Hp} {Q : β → Hp → Prop} (h : tX G W rel f σV H Q) {P : Prop}
    (k : ∀ σ S r, r.H = H → Rl G r S → RSt G r σ σV → Post G rel W σV r (f σ S) Q → P) : P := by
  obtain ⟨σ, S, r, e, l, s, p⟩ := h
  exact k σ S r e l s p

theorem PE.post {e : Expr} {t : TE} (h : PE X e t) : PE X e (fun σ H Q => ∃ Q0 : VK, t σ H Q0 ∧ ∀ v H, Q0 v H → Q v H) :=
  ⟨fun pins s σ H Q I ⟨Q0, z, k⟩ => thn (h.run pins s σ H Q0 I z) fun u s1 ⟨v, H1, I1, r1, q1⟩ => ⟨v, H1, I1, r1, k v H1 q1⟩⟩
theorem PT.post {e : Expr} {t : TT} (h : PT X e t) : PT X e (fun σ H Q => ∃ Q0 : Bool → Hp → Prop, t σ H Q0 ∧ ∀ v H, Q0 v H → Q v H) :=
  ⟨fun pins s σ H Q I ⟨Q0, z, k⟩ => thn (h.run pins s σ H Q0 I z) fun u s1 ⟨H1, I1, q1⟩ => ⟨H1, I1, k u H1 q1⟩⟩

/-! ### leaves -/
theorem n_slot {i : Nat} {x : Str} {pos : Pos} (hN : X.N[i]? = some x) (hv : Vis X.env.scope x) (ho : okN x = true) (cl : Cl) (gc : List D) : PE X (.Name x pos) (tD G W (evE cl gc (.slot i))) := by
  refine PE.mono (pe_var hN hv (okN_d ho) (okN_c ho)) fun σV H Q ⟨σ, S, r, e, l, s, p⟩ => ?_
  subst e
  unfold evE at p
  split at p
  · rename_i d ed
    obtain ⟨v, h1, h2⟩ := s.get i d ed
    exact ⟨v, h1, Post.here p l h2⟩
  · exact False.elim p
theorem n_con {x : Expr} {v : V} {d : D} (h : PE X x (tC v)) (hr : ∀ r, Rep G r d v) : PE X x (tD G W (fun _ S => .ok d S)) := by
  refine PE.mono h fun σV H Q ⟨σ, S, r, e, l, s, p⟩ => ?_
  subst e
  exact Post.here p l (hr r)

/-! ### operators -/
variable {fa fb fc : Env → Store → Out D} {a b c : Expr}
theorem n_bin (hK : X.K = G.K) {o : Op} {pos : Pos} (ha : PE X a (tD G W fa)) (hb : PE X b (tD G W fb)) : PE X (.BinOp a (opA o) b pos) (tD G W (fun σ S => (fa σ S).bind fun x S => (fb σ S).bind fun y S => op2 o x y S)) := by
  obtain ⟨rr, h1, h2⟩ := r2_op (X := X) hK o
  refine PE.mono (pe_op h1 ha hb) fun σV H Q h => ?_
  refine tX.step (rel := Rep G) h fun vx σ x S r l s hx p => ?_
  refine ⟨σ, S, r, rfl, l, s, (Post.bind (rel := Rep G) p).mono fun vy H1 ⟨y, S1, r1, e1, x1, l1, hy, p1⟩ => ?_⟩
  subst e1
  exact h2 W σV x y S1 r1 vx vy Q l1 (hx.ext x1) hy p1
theorem n_neg {pos : Pos} (ha : PE X a (tD G W fa)) : PE X (.UnaryOp .USub a pos) (tD G W (fun σ S => (fa σ S).bind fun x S => match x with | .int i => .ok (.int (-i)) S | _ => .bad)) := by
  refine PE.mono (pe_un un_neg ha) fun σV H Q h => ?_
  refine tX.step (rel := Rep G) h fun vx σ x S r l s hx p => ?_
  split at p
  · cases hx; exact ⟨_, rfl, Post.here p l (.int _)⟩
  · exact False.elim p
/-- a bool at hand, as a value -/
theorem Post.blk {σV : L2.St} {r : RS} {o : Out Bool} {Q : VK} (p : Post G (Rep G) W σV r (o.bind fun k S => .ok (.bl k) S) Q) : Post G RT W σV r o (fun k H => Q (.bl k) H) :=
  (Post.bind (rel := RT) p).mono fun k H2 ⟨k', S2, r2, e2, x2, l2, hk, p2⟩ => by
    subst e2
    cases hk
    exact Post.here p2 l2 (.bl _)
theorem n_cmp (hK : X.K = G.K) (hu : X.A.units + 64 < cLine) {o : Cp} {pos : Pos} (ha : PE X a (tD G W fa)) (hb : PE X b (tD G W fb)) (hm : behindInMarks (cpA o) b = false) :
    PE X (.Compare a [cpA o] [b] pos) (tD G W (fun σ S => (fa σ S).bind fun x S => (fb σ S).bind fun y S => (cmp2 o x y S).bind fun k S => .ok (.bl k) S)) := by
  obtain ⟨rr, h1, h2⟩ := c2_cmp (X := X) hK hu o
  refine PE.mono (PE.post (pe_cmpR h1 ha hb hm)) fun σV H Q h => ?_
  refine ⟨fun z H => ∃ k, z = .bl k ∧ Q (.bl k) H, ?_, fun v H ⟨k, e, q⟩ => by rw [e]; exact q⟩
  refine tX.step (rel := Rep G) h fun vx σ x S r l s hx p => ?_
  refine ⟨σ, S, r, rfl, l, s, (Post.bind (rel := Rep G) p).mono fun vy H1 ⟨y, S1, r1, e1, x1, l1, hy, p1⟩ => ?_⟩
  subst e1
  exact h2 W σV x y S1 r1 vx vy (fun k H => Q (.bl k) H) l1 (hx.ext x1) hy (Post.blk p1)
theorem n_cmpT (hK : X.K = G.K) (hu : X.A.units + 64 < cLine) {o : Cp} {pos : Pos} (ha : PE X a (tD G W fa)) (hb : PE X b (tD G W fb)) (hm : behindInMarks (cpA o) b = false) :
    PT X (.Compare a [cpA o] [b] pos) (tT G W (fun σ S => (fa σ S).bind fun x S => (fb σ S).bind fun y S => cmp2 o x y S)) := by
  obtain ⟨rr, h1, h2⟩ := c2_cmp (X := X) hK hu o
  refine PT.mono (pt_cmpR h1 ha hb hm) fun σV H Q h => ?_
  refine tX.step (rel := Rep G) h fun vx σ x S r l s hx p => ?_
  refine ⟨σ, S, r, rfl, l, s, (Post.bind (rel := Rep G) p).mono fun vy H1 ⟨y, S1, r1, e1, x1, l1, hy, p1⟩ => ?_⟩
  subst e1
  exact h2 W σV x y S1 r1 vx vy Q l1 (hx.ext x1) hy p1
theorem chain_aux (hK : X.K = G.K) (hu : X.A.units + 64 < cLine) {o o' : Cp} {rr rr' : R2}
    (h2 : ∀ (W : WX) (σV : L2.St) (x y : D) (S : Store) (r : RS) (vx vy : V) (Q : Bool → Hp → Prop), Rl G r S → Rep G r x vx → Rep G r y vy → Post G RT W σV r (cmp2 o x y S) Q → rr vx vy r.H (fun z H => ∃ k, z = .bl k ∧ Q k H))
    (h2' : ∀ (W : WX) (σV : L2.St) (x y : D) (S : Store) (r : RS) (vx vy : V) (Q : Bool → Hp → Prop), Rl G r S → Rep G r x vx → Rep G r y vy → Post G RT W σV r (cmp2 o' x y S) Q → rr' vx vy r.H (fun z H => ∃ k, z = .bl k ∧ Q k H))
    {σV : L2.St} {H : Hp} {Q : Bool → Hp → Prop}
    (h : tT G W (fun σ S => (fa σ S).bind fun x S => (fb σ S).bind fun y S => (cmp2 o x y S).bind fun k S => match k with | true => (fc σ S).bind fun z S => cmp2 o' y z S | false => .ok false S) σV H Q) :
    tChain rr rr' (tD G W fa) (tD G W fb) (tD G W fc) σV H (fun z H => ∃ k, z = .bl k ∧ Q k H) := by
  refine tX.step (rel := Rep G) h fun vx σ x S r l s hx p => ?_
  refine ⟨σ, S, r, rfl, l, s, (Post.bind (rel := Rep G) p).mono fun vy H1 ⟨y, S1, r1, e1, x1, l1, hy, p1⟩ => ?_⟩
  subst e1
  refine h2 W σV x y S1 r1 vx vy _ l1 (hx.ext x1) hy ((Post.bind (rel := RT) p1).mono fun k H2 ⟨k', S2, r2, e2, x2, l2, hk, p2⟩ => ?_)
  subst e2
  cases hk
  cases k with
  | false =>
    simp only [Bool.false_eq_true, if_false]
    exact ⟨false, rfl, Post.here p2 l2 rfl⟩
  | true =>
    simp only [if_true]
    refine ⟨σ, S2, r2, rfl, l2, (s.ext x1).ext x2, (Post.bind (rel := Rep G) p2).mono fun vz H3 ⟨z, S3, r3, e3, x3, l3, hz, p3⟩ => ?_⟩
    subst e3
    exact h2' W σV y z S3 r3 vy vz Q l3 ((hy.ext x2).ext x3) hz p3
theorem n_chainT (hK : X.K = G.K) (hu : X.A.units + 64 < cLine) {o o' : Cp} {pos : Pos} (ha : PE X a (tD G W fa)) (hb : PE X b (tD G W fb)) (hc : PE X c (tD G W fc)) (hm : lastMarks [cpA o, cpA o'] [b, c] = false) :
    PT X (.Compare a [cpA o, cpA o'] [b, c] pos) (tT G W (fun σ S => (fa σ S).bind fun x S => (fb σ S).bind fun y S => (cmp2 o x y S).bind fun k S => match k with | true => (fc σ S).bind fun z S => cmp2 o' y z S | false => .ok false S)) := by
  obtain ⟨rr, h1, h2⟩ := c2_cmp (X := X) hK hu o
  obtain ⟨rr', h1', h2'⟩ := c2_cmp (X := X) hK hu o'
  exact PT.mono (pt_chain h1 h1' ha hb hc hm) fun σV H Q h => chain_aux hK hu h2 h2' h
theorem n_chain (hK : X.K = G.K) (hu : X.A.units + 64 < cLine) {o o' : Cp} {pos : Pos} (ha : PE X a (tD G W fa)) (hb : PE X b (tD G W fb)) (hc : PE X c (tD G W fc)) (hm : lastMarks [cpA o, cpA o'] [b, c] = false) :
    PE X (.Compare a [cpA o, cpA o'] [b, c] pos) (tD G W (fun σ S => (fa σ S).bind fun x S => (fb σ S).bind fun y S => (cmp2 o x y S).bind fun k S => match k with | true => (fc σ S).bind fun z S => (cmp2 o' y z S).bind fun k S => .ok (.bl k) S | false => .ok (.bl false) S)) := by
  obtain ⟨rr, h1, h2⟩ := c2_cmp (X := X) hK hu o
  obtain ⟨rr', h1', h2'⟩ := c2_cmp (X := X) hK hu o'
  refine PE.mono (PE.post (pe_chain h1 h1' ha hb hc hm)) fun σV H Q h => ?_
  refine ⟨fun z H => ∃ k, z = .bl k ∧ Q (.bl k) H, chain_aux (W := W) (Q := fun k H => Q (.bl k) H) hK hu h2 h2' ?_, fun v H ⟨k, e, q⟩ => by rw [e]; exact q⟩
  obtain ⟨σ, S, r, e, l, s, p⟩ := h
  refine ⟨σ, S, r, e, l, s, Post.blk ?_⟩
  have e : ((fa σ S).bind fun x S => (fb σ S).bind fun y S => (cmp2 o x y S).bind fun k S => match k with | true => (fc σ S).bind fun z S => (cmp2 o' y z S).bind fun k S => .ok (.bl k) S | false => .ok (.bl false) S) =
      (((fa σ S).bind fun x S => (fb σ S).bind fun y S => (cmp2 o x y S).bind fun k S => match k with | true => (fc σ S).bind fun z S => cmp2 o' y z S | false => .ok false S).bind fun k S => (.ok (D.bl k) S : Out D)) := by
    cases (fa σ S) <;> simp only [Out.bind]
    rename_i x S
    cases (fb σ S) <;> simp only [Out.bind]
    rename_i y S
    cases (cmp2 o x y S) <;> simp only [Out.bind]
    rename_i k S
    cases k <;> simp only [Out.bind]
    cases (fc σ S) <;> simp only [Out.bind]
  rw [← e]
  exact p
/-! ### truth, and, or, not, if -/
theorem n_val (hK : X.K = G.K) (ha : PE X a (tD G W fa)) (he : ∀ whole, isTrue a X.env whole = (do let v ← whole; standAt a.pos; holding [v] (truthy v))) : PT X a (tT G W (fun σ S => (fa σ S).bind fun x S => truth x S)) := by
  refine PT.mono (pt_truth ha he) fun σV H Q h => ?_
  exact tX.step (rel := Rep G) h fun vx σ x S r l s hx p => truth_ok hK l hx p
theorem n_notE (hK : X.K = G.K) {pos : Pos} (ha : PE X a (tD G W fa)) : PE X (.UnaryOp .Not a pos) (tD G W (fun σ S => (fa σ S).bind fun x S => (truth x S).bind fun b S => .ok (.bl (!b)) S)) := by
  refine PE.mono (pe_notT ha) fun σV H Q h => ?_
  refine tX.step (rel := Rep G) h fun vx σ x S r l s hx p => ?_
  refine truth_ok (W := W) (σV := σV) (Q := fun k H => Q (.bl (!k)) H) hK l hx ((Post.bind (rel := RT) p).mono fun k H2 ⟨k', S2, r2, e2, x2, l2, hk, p2⟩ => ?_)
  subst e2
  cases hk
  exact Post.here p2 l2 (.bl _)
theorem n_and (hK : X.K = G.K) {rest : List Expr} {pos : Pos} (ha : PE X a (tD G W fa)) (hb : PE X (.BoolOp .And (b :: rest) pos) (tD G W fb)) :
    PE X (.BoolOp .And (a :: b :: rest) pos) (tD G W (fun σ S => (fa σ S).bind fun x S => (truth x S).bind fun c S => match c with | true => fb σ S | false => .ok x S)) := by
  refine PE.mono (pe_andT ha hb) fun σV H Q h => ?_
  refine tX.step (rel := Rep G) h fun vx σ x S r l s hx p => ?_
  refine truth_ok (W := W) (σV := σV) (Q := fun k H => if k = true then tD G W fb σV H Q else Q vx H) hK l hx ((Post.bind (rel := RT) p).mono fun k H2 ⟨k', S2, r2, e2, x2, l2, hk, p2⟩ => ?_)
  subst e2
  cases hk
  cases k with
  | true => exact ⟨σ, S2, r2, rfl, l2, s.ext x2, p2⟩
  | false => exact Post.here p2 l2 (hx.ext x2)
theorem n_or (hK : X.K = G.K) {rest : List Expr} {pos : Pos} (ha : PE X a (tD G W fa)) (hb : PE X (.BoolOp .Or (b :: rest) pos) (tD G W fb)) :
    PE X (.BoolOp .Or (a :: b :: rest) pos) (tD G W (fun σ S => (fa σ S).bind fun x S => (truth x S).bind fun c S => match c with | true => .ok x S | false => fb σ S)) := by
  refine PE.mono (pe_orT ha hb) fun σV H Q h => ?_
  refine tX.step (rel := Rep G) h fun vx σ x S r l s hx p => ?_
  refine truth_ok (W := W) (σV := σV) (Q := fun k H => if k = true then Q vx H else tD G W fb σV H Q) hK l hx ((Post.bind (rel := RT) p).mono fun k H2 ⟨k', S2, r2, e2, x2, l2, hk, p2⟩ => ?_)
  subst e2
  cases hk
  cases k with
  | false => exact ⟨σ, S2, r2, rfl, l2, s.ext x2, p2⟩
  | true => exact Post.here p2 l2 (hx.ext x2)
variable {ft fu : Env → Store → Out Bool}
theorem n_not {pos : Pos} (ha : PT X a (tT G W ft)) : PT X (.UnaryOp .Not a pos) (tT G W (fun σ S => (ft σ S).bind fun b S => .ok (!b) S)) := by
  refine PT.mono (pt_not ha) fun σV H Q h => ?_
  refine tX.step (rel := RT) h fun k σ k' S r l s hk p => ?_
  cases hk
  exact Post.here p l rfl
theorem n_andT {rest : List Expr} {pos : Pos} (ha : PT X a (tT G W ft)) (hb : PW X (.BoolOp .And (b :: rest) pos) (tT G W fu)) :
    PW X (.BoolOp .And (a :: b :: rest) pos) (tT G W (fun σ S => (ft σ S).bind fun c S => match c with | true => fu σ S | false => .ok false S)) := by
  refine PW.mono (pw_and ha hb) fun σV H Q h => ?_
  refine tX.step (rel := RT) h fun k σ k' S r l s hk p => ?_
  cases hk
  cases k with
  | true => exact ⟨σ, S, r, rfl, l, s, p⟩
  | false => exact Post.here p l rfl
theorem n_orT {rest : List Expr} {pos : Pos} (ha : PT X a (tT G W ft)) (hb : PW X (.BoolOp .Or (b :: rest) pos) (tT G W fu)) :
    PW X (.BoolOp .Or (a :: b :: rest) pos) (tT G W (fun σ S => (ft σ S).bind fun c S => match c with | true => .ok true S | false => fu σ S)) := by
  refine PW.mono (pw_or ha hb) fun σV H Q h => ?_
  refine tX.step (rel := RT) h fun k σ k' S r l s hk p => ?_
  cases hk
  cases k with
  | false => exact ⟨σ, S, r, rfl, l, s, p⟩
  | true => exact Post.here p l rfl
theorem n_ite {pos : Pos} (hc : PT X c (tT G W ft)) (ha : PE X a (tD G W fa)) (hb : PE X b (tD G W fb)) : PE X (.IfExp c a b pos) (tD G W (fun σ S => (ft σ S).bind fun k S => match k with | true => fa σ S | false => fb σ S)) := by
  refine PE.mono (pe_ifExp hc ha hb) fun σV H Q h => ?_
  refine tX.step (rel := RT) h fun k σ k' S r l s hk p => ?_
  cases hk
  cases k with
  | false => exact ⟨σ, S, r, rfl, l, s, p⟩
  | true => exact ⟨σ, S, r, rfl, l, s, p⟩
/-- the whole of and/or is not looked at -/
theorem pw_bool {op : BoolOp} {vs : List Expr} {pos : Pos} {t : TT} (h : PT X (.BoolOp op vs pos) t) : PW X (.BoolOp op vs pos) t := ⟨fun whole pins s σ H Q I z => h.run pins s σ H Q I z⟩

/-! ### indices and slices -/
theorem n_idx (hK : X.K = G.K) {pos : Pos} (ha : PE X a (tD G W fa)) (hb : PE X b (tD G W fb)) (hs : PlainIx b) : PE X (.Subscript a b pos) (tD G W (fun σ S => (fa σ S).bind fun x S => (fb σ S).bind fun y S => item x y S)) := by
  refine PE.mono (pe_ix ix_seq ha hb hs) fun σV H Q h => ?_
  refine tX.step (rel := Rep G) h fun vx σ x S r l s hx p => ?_
  refine ⟨σ, S, r, rfl, l, s, (Post.bind (rel := Rep G) p).mono fun vy H1 ⟨y, S1, r1, e1, x1, l1, hy, p1⟩ => ?_⟩
  subst e1
  exact ix_ok hK l1 (hx.ext x1) hy p1
def RO (_ : RS) (a b : Option Int) : Prop := a = b
def tO (G : Glob) (W : WX) (f : Env → Store → Out (Option Int)) : TO := tX G W RO f
theorem PO.mono {e : Option Expr} {t t' : TO} (h : PO X e t) (q : ∀ σ H Q, t' σ H Q → t σ H Q) : PO X e t' := ⟨fun pins s σ H Q I z => h.run pins s σ H Q I (q σ H Q z)⟩
theorem n_onone : PO X none (tO G W (fun _ S => .ok none S)) := by
  refine PO.mono po_none fun σV H Q ⟨σ, S, r, e, l, s, p⟩ => ?_
  subst e
  exact Post.here p l rfl
theorem n_osome (ha : PE X a (tD G W fa)) : PO X (some a) (tO G W (fun σ S => (fa σ S).bind fun x S => match x with | .int i => .ok (some i) S | _ => .bad)) := by
  refine PO.mono (po_some ha) fun σV H Q h => ?_
  refine tX.step (rel := Rep G) h fun vx σ x S r l s hx p => ?_
  split at p
  · cases hx; exact ⟨_, rfl, Post.here p l rfl⟩
  · exact False.elim p
theorem n_slc (hK : X.K = G.K) {lo hi : Option Expr} {fl fh : Env → Store → Out (Option Int)} {p2 pos : Pos} (ha : PE X a (tD G W fa)) (hl : PO X lo (tO G W fl)) (hh : PO X hi (tO G W fh)) :
    PE X (.Subscript a (.Slice lo hi none p2) pos) (tD G W (fun σ S => (fa σ S).bind fun x S => (fl σ S).bind fun l S => (fh σ S).bind fun h S => slice x l h S)) := by
  refine PE.mono (pe_slice sl_X ha hl hh) fun σV H Q h => ?_
  refine tX.step (rel := Rep G) h fun vx σ x S r l s hx p => ?_
  refine ⟨σ, S, r, rfl, l, s, (Post.bind (rel := RO) p).mono fun vy H1 ⟨y, S1, r1, e1, x1, l1, hy, p1⟩ => ?_⟩
  subst e1
  cases hy
  refine ⟨σ, S1, r1, rfl, l1, s.ext x1, (Post.bind (rel := RO) p1).mono fun vz H2 ⟨z, S2, r2, e2, x2, l2, hz, p2⟩ => ?_⟩
  subst e2
  cases hz
  exact sl_ok hK l2 ((hx.ext x1).ext x2) p2
theorem n_rev (hK : X.K = G.K) {k : Nat} {p1 p2 p3 pos : Pos} (ha : PE X a (tD G W fa)) : PE X (.Subscript a (.Slice none none (some (.UnaryOp .USub (.Constant (.int 1) k p1) p2)) p3) pos) (tD G W (fun σ S => (fa σ S).bind fun x S => revd x S)) := by
  refine PE.mono (pe_revA ha) fun σV H Q h => ?_
  exact tX.step (rel := Rep G) h fun vx σ x S r l s hx p => rev_ok hK l hx p

/-! ### lists of arguments, displays -/
variable {fs : Env → Store → Out (List D)} {es : List Expr}
theorem n_nil : PA X [] (tDs G W (fun _ S => .ok [] S)) := by
  refine PA.mono pa_nil fun σV H Q ⟨σ, S, r, e, l, s, p⟩ => ?_
  subst e
  exact Post.here p l .nil
theorem n_cons (ha : PE X a (tD G W fa)) (hs : PA X es (tDs G W fs)) (hn : noStar a = true) : PA X (a :: es) (tDs G W (fun σ S => (fa σ S).bind fun d S => (fs σ S).bind fun ds S => .ok (d :: ds) S)) := by
  refine PA.mono (pa_cons ha hs (starEach_cons hn)) fun σV H Q h => ?_
  refine tX.step (rel := Rep G) h fun vx σ x S r l s hx p => ?_
  refine ⟨σ, S, r, rfl, l, s, (Post.bind (rel := Reps G) p).mono fun vy H1 ⟨y, S1, r1, e1, x1, l1, hy, p1⟩ => ?_⟩
  subst e1
  exact Post.here p1 l1 (.cons (hx.ext x1) hy)
theorem n_tup {k : Nat} {pos : Pos} (hs : PA X es (tDs G W fs)) : PE X (.Tuple es k pos) (tD G W (fun σ S => (fs σ S).bind fun ds S => if fits ds.length then .ok (.tup ds) S else .bad)) := by
  refine PE.mono (pe_tup hs) fun σV H Q h => ?_
  refine tX.step (rel := Reps G) h fun vs σ ds S r l s hx p => ?_
  split at p
  · rename_i hf
    exact ⟨by rw [← hx.length]; exact fits_of hf, fun q hq => Post.newTup p l hx hq⟩
  · exact False.elim p
theorem n_lst {pos : Pos} (hs : PA X es (tDs G W fs)) : PE X (.List es pos) (tD G W (fun σ S => (fs σ S).bind fun ds S => if fits ds.length then .ok (.lst ds) S else .bad)) := by
  refine PE.mono (pe_lst hs) fun σV H Q h => ?_
  refine tX.step (rel := Reps G) h fun vs σ ds S r l s hx p => ?_
  split at p
  · rename_i hf
    exact ⟨by rw [← hx.length]; exact fits_of hf, fun q hq => Post.newLst p l hx hq⟩
  · exact False.elim p
theorem n_new {pos : Pos} (hs : PA X es (tDs G W fs)) : PE X (.List es pos) (tD G W (fun σ S => (fs σ S).bind fun ds S => if fits ds.length then .ok (.ref S.length) (S ++ [ds]) else .bad)) := by
  refine PE.mono (pe_lst hs) fun σV H Q h => ?_
  refine tX.step (rel := Reps G) h fun vs σ ds S r l s hx p => ?_
  split at p
  · rename_i hf
    refine ⟨by rw [← hx.length]; exact fits_of hf, fun q hq => ?_⟩
    refine p (.ref q) (r.new q vs) (Ext.new l hq vs) (Rl.new l hq hx) (.ref ?_)
    show (r.mu ++ [q])[S.length]? = some q
    rw [← l.len, List.getElem?_append_right (Nat.le_refl _)]; simp
  · exact False.elim p

/-! ### calls -/
theorem n_call {cl : Cl} {g n : Nat} {fd : FuncData} {ps : List Str} {x : Str} {p pos : Pos} (hm : X.mg x = some (.ref (G.fnA g))) (hk : PySem.W.keepIn X.K (.ref (G.fnA g)) = true) (hr : Room n X.A)
    (F : FnOk X.prog X.w X.K X.mg X.base (L2.CX X.prog X.w) n (G.fnA g) fd ps (spD G cl g)) (hb : Binds X.K fd ps []) (tk : Takes X W) (hg : Gl X x) (ho : okN x = true) (hs : PA X es (tDs G W fs)) (hn : es.all noStar = true) (hne : es ≠ []) :
    PE X (.Call (.Name x p) es [] pos) (tD G W (fun σ S => (fs σ S).bind fun ds S => cl g ds S)) := by
  cases es with
  | nil => exact absurd rfl hne
  | cons e es =>
    rw [List.all_cons, Bool.and_eq_true] at hn
    refine PE.mono (pe_callSD F hr hg hm hk hb .nil (fun σ => passAt tk σ) hs (okN_d ho) (starEach_cons hn.1) (any_star hn.2)) fun σV H Q h => ?_
    refine tX.step (rel := Reps G) h fun vs σ ds S r l s hx p => ?_
    rw [List.append_nil]
    refine ⟨ds, S, r, rfl, l, hx, ?_⟩
    revert p
    cases cl g ds S with
    | ok a S => exact fun p => p
    | exc x S => exact fun p => p
    | bad => exact fun p => p
theorem n_biB {b : Bi} {id : String} {x : Str} {p pos : Pos} (hb : BS G X (.builtin id) b) (hg : Gl X x) (hm : X.mg x = none) (hv : bootBuiltins x = some (.builtin id)) (ho : okN x = true) (hnm : x ≠ "__name__") (hs : PA X es (tDs G W fs)) (hn : es.all noStar = true) (hne : es ≠ []) :
    PE X (.Call (.Name x p) es [] pos) (tD G W (fun σ S => (fs σ S).bind fun ds S => bi b ds S)) := by
  cases es with
  | nil => exact absurd rfl hne
  | cons e es =>
    rw [List.all_cons, Bool.and_eq_true] at hn
    obtain ⟨rr, h1, h2⟩ := hb
    refine PE.mono (pe_callB h1 hg hm hv hs hnm (okN_d ho) (starEach_cons hn.1) (any_star hn.2)) fun σV H Q h => ?_
    exact tX.step (rel := Reps G) h fun vs σ ds S r l s hx p => h2 W σV ds S r vs Q l hx p
theorem n_biT {b : Bi} {id : String} {x : Str} {p pos : Pos} (hb : BS G X (.type id) b) (hg : Gl X x) (hm : X.mg x = none) (hv : bootBuiltins x = some (.type id)) (ho : okN x = true) (hnm : x ≠ "__name__") (hs : PA X es (tDs G W fs)) (hn : es.all noStar = true) (hne : es ≠ []) :
    PE X (.Call (.Name x p) es [] pos) (tD G W (fun σ S => (fs σ S).bind fun ds S => bi b ds S)) := by
  cases es with
  | nil => exact absurd rfl hne
  | cons e es =>
    rw [List.all_cons, Bool.and_eq_true] at hn
    obtain ⟨rr, h1, h2⟩ := hb
    refine PE.mono (pe_callTy h1 hg hm hv hs hnm (okN_d ho) (starEach_cons hn.1) (any_star hn.2)) fun σV H Q h => ?_
    exact tX.step (rel := Reps G) h fun vs σ ds S r l s hx p => h2 W σV ds S r vs Q l hx p
/-- f() -/
theorem n_call0 {cl : Cl} {g n : Nat} {fd : FuncData} {ps : List Str} {x : Str} {p pos : Pos} (hm : X.mg x = some (.ref (G.fnA g))) (hk : PySem.W.keepIn X.K (.ref (G.fnA g)) = true) (hr : Room n X.A)
    (F : FnOk X.prog X.w X.K X.mg X.base (L2.CX X.prog X.w) n (G.fnA g) fd ps (spD G cl g)) (hb : Binds X.K fd ps []) (tk : Takes X W) (hg : Gl X x) (ho : okN x = true) :
    PE X (.Call (.Name x p) [] [] pos) (tD G W (fun σ S => cl g [] S)) := by
  refine ⟨fun pins s σV H Q I ⟨σ, S, r, e, l, s1, p⟩ => ?_⟩
  subst e
  refine wpAny_Call_Name_kw (ld_glob I hg hm ?_ (okN_d ho))
  refine PySem.W.callWith_K0 I.kIn hk ?_
  refine run_fnSD (us := []) (vs := []) (dvs := []) (E := WE W) F hr hb .nil (passAt tk σV) I .nil ?_
  refine ⟨[], S, r, rfl, l, .nil, ?_⟩
  dsimp only at p
  revert p
  cases cl g [] S with
  | ok a S => exact fun p => p
  | exc x S => exact fun p => p
  | bad => exact fun p => p
/-! stars, {}, join -/
theorem n_star (hK : X.K = G.K) {sp : Pos} (ha : PE X a (tD G W fa)) (hs : PA X es (tDs G W fs)) : PA X (.Starred a sp :: es) (tDs G W (fun σ S => (fa σ S).bind fun d S => (match seqOf d S with | some xs => (fs σ S).bind fun ds S => .ok (xs ++ ds) S | none => .bad))) := by
  refine PA.mono (StX.pa_star ha hs) fun σV H Q h => ?_
  refine tX.step (rel := Rep G) h fun vx σ x S r l s hx p => ?_
  split at p
  · rename_i xs e
    obtain ⟨q, vs, rfl, k, sa⟩ := seqOf_rep l hx e
    refine ⟨q, vs, rfl, ?_, σ, S, r, rfl, l, s, (Post.bind (rel := Reps G) p).mono fun vy H1 ⟨y, S1, r1, e1, x1, l1, hy, p1⟩ => ?_⟩
    · rw [hK]
      rcases k with ⟨k, _⟩ | ⟨k, _⟩
      · exact .inr (.inl k)
      · exact .inl k.sq
    · subst e1
      exact Post.here p1 l1 ((sa.ext x1).append hy)
  · exact False.elim p
theorem n_dict0 {pos : Pos} : PE X (.Dict [] [] pos) (tD G W (fun _ S => .ok .dic S)) := by
  refine PE.mono pe_dnewK fun σV H Q ⟨σ, S, r, e, l, s, p⟩ => ?_
  subst e
  intro q hq
  exact p (.ref q) (r.put q (.dK [])) (Ext.put l hq _) (Rl.put l hq _) (.dic put_at (Rl.noZ l hq))
theorem strs_ok : ∀ {ds : List D} {vs : List V} {r : RS} {ts : List (List Nat)}, Reps G r ds vs → strsOf ds = some ts → vs = (ts.map txt).map V.str
  | [], _, _, _, .nil, h => by cases h; rfl
  | .str x :: ds, _, _, ts, .cons h hs, e => by
    unfold strsOf at e
    cases q : strsOf ds with
    | none => rw [q] at e; cases e
    | some us =>
      rw [q] at e; cases e
      cases h
      rw [strs_ok hs q]; rfl
  | .non :: _, _, _, _, _, e => by cases e
  | .bl _ :: _, _, _, _, _, e => by cases e
  | .int _ :: _, _, _, _, _, e => by cases e
  | .tup _ :: _, _, _, _, _, e => by cases e
  | .lst _ :: _, _, _, _, _, e => by cases e
  | .ref _ :: _, _, _, _, _, e => by cases e
  | .fn _ :: _, _, _, _, _, e => by cases e
  | .exn _ _ :: _, _, _, _, _, e => by cases e
  | .scr _ :: _, _, _, _, _, e => by cases e
  | .dic :: _, _, _, _, _, e => by cases e
theorem glue_fold (sep : List Nat) : ∀ (ts : List (List Nat)) (acc : List Nat), (ts.map txt).foldl (fun acc p => acc ++ (txt sep).cps ++ p.cps) acc.toArray = (acc ++ (ts.map (sep ++ ·)).flatten).toArray
  | [], acc => by simp
  | t :: ts, acc => by
    rw [List.map_cons, List.foldl_cons]
    have e : acc.toArray ++ (txt sep).cps ++ (txt t).cps = (acc ++ sep ++ t).toArray := by simp [txt]
    rw [e, glue_fold sep ts]
    simp
theorem joinL_eq (sep : List Nat) : ∀ (t : List Nat) (ts : List (List Nat)), joinL sep (t :: ts) = t ++ (ts.map (sep ++ ·)).flatten
  | t, [] => by simp [joinL]
  | t, u :: ts => by
    rw [joinL, joinL_eq sep u ts]
    · simp
    · simp
theorem join_ok (sep : List Nat) (ts : List (List Nat)) : Txt.join (txt sep) (ts.map txt) = txt (joinL sep ts) := by
  cases ts with
  | nil => rfl
  | cons t ts =>
    rw [joinL_eq]
    show Builtin.Str.glued (txt sep) ((t :: ts).map txt) = _
    unfold Builtin.Str.glued
    have := glue_fold sep ts t
    have e2 : (((t :: ts).map txt).headD Str.empty).cps = t.toArray := rfl
    have e3 : ((t :: ts).map txt).drop 1 = ts.map txt := rfl
    rw [e2, e3, this]; rfl
theorem sumLen_ok (sep : List Nat) (hs : sep.length ≤ 1) : ∀ ts : List (List Nat), ((ts.map txt).map (·.length)).sum + (ts.map txt).length * (txt sep).length ≤ sumLen ts
  | [] => by simp [sumLen]
  | t :: ts => by
    have ih := sumLen_ok sep hs ts
    rw [txt_length] at ih ⊢
    simp only [List.map_cons, List.sum_cons, List.length_cons, sumLen, Nat.add_mul, txt_length] at ih ⊢
    omega
theorem n_join (hK : X.K = G.K) {apos pos : Pos} (ha : PE X a (tD G W fa)) (hb : PE X b (tD G W fb)) (hn : noStar b = true) (hbase : attributeBase a "join" X.env (eval a X.env) = eval a X.env) (hline : (apos.endLine == pos.line) = true) :
    PE X (.Call (.Attribute a "join" apos) [b] [] pos) (tD G W (fun σ S => (fa σ S).bind fun x S => match x with | .str sep => (fb σ S).bind fun d S => mth .join (.str sep) [d] S | _ => .bad)) := by
  refine PE.mono (pe_join ha hb (starEach_cons hn) hbase hline) fun σV H Q h => ?_
  refine tX.step (rel := Rep G) h fun vx σ x S r l s hx p => ?_
  cases x with
  | str sep =>
    have p : Post G (Rep G) W σV r ((fb σ S).bind fun d S => mth .join (.str sep) [d] S) Q := p
    cases hx
    refine ⟨⟨_, rfl⟩, σ, S, r, rfl, l, s, (Post.bind (rel := Rep G) p).mono fun vy H1 ⟨y, S1, r1, e1, x1, l1, hy, p1⟩ => ?_⟩
    subst e1
    unfold mth at p1
    dsimp only at p1
    cases e : seqOf y S1 with
    | none => rw [e] at p1; exact False.elim p1
    | some xs =>
      rw [e] at p1
      dsimp only [Option.bind] at p1
      split at p1
      · rename_i ts e2
        split at p1
        · rename_i hz
          rw [Bool.and_eq_true] at hz
          obtain ⟨q, vs, rfl, k, sa⟩ := seqOf_rep l1 hy e
          have ev := strs_ok sa e2
          refine ⟨txt sep, q, ts.map txt, rfl, rfl, ?_, ?_, ?_⟩
          · rw [hK, ← ev]
            rcases k with ⟨k, _⟩ | ⟨k, _⟩
            · exact .inl (.inl k)
            · exact .inr k.sq
          · exact Nat.le_trans (sumLen_ok sep (isOk hz.1) ts) (Nat.le_trans (isOk hz.2) (by decide))
          · rw [join_ok]
            exact Post.here p1 l1 (.str _)
        · exact False.elim p1
      · exact False.elim p1
  | _ => exact False.elim p
theorem n_split (hK : X.K = G.K) {apos pos : Pos} (ha : PE X a (tD G W fa)) (hb : PE X b (tD G W fb)) (hn : noStar b = true) (hbase : attributeBase a "split" X.env (eval a X.env) = eval a X.env) (hline : (apos.endLine == pos.line) = true) :
    PE X (.Call (.Attribute a "split" apos) [b] [] pos) (tD G W (fun σ S => (fa σ S).bind fun x S => match x with | .str z => (fb σ S).bind fun y S => mth .split (.str z) [y] S | _ => .bad)) := by
  refine PE.mono (pe_split ha hb (starEach_cons hn) hbase hline) fun σV H Q h => ?_
  refine tX.step (rel := Rep G) h fun vx σ x S r l s hx p => ?_
  cases x with
  | str z =>
    have p : Post G (Rep G) W σV r ((fb σ S).bind fun y S => mth .split (.str z) [y] S) Q := p
    cases hx
    refine ⟨⟨_, rfl⟩, σ, S, r, rfl, l, s, (Post.bind (rel := Rep G) p).mono fun vy H1 ⟨y, S1, r1, e1, x1, l1, hy, p1⟩ => ?_⟩
    subst e1
    unfold mth at p1
    split at p1
    · rename_i e _ _; cases e
    · rename_i z2 c e1 e2 e3
      cases e2
      cases e3
      cases hy
      split at p1
      · rename_i hz
        refine ⟨txt z, txt [c], rfl, rfl, rfl, ?_, fun q hq => ?_⟩
        · rw [txt_length]; exact isOk hz
        · have es : Txt.split (txt z) (txt [c]) = (splitL c z []).map txt := split_ok z c
          rw [es]
          have hr : ∀ (r : RS) (ts : List (List Nat)), Reps G r (ts.map D.str) ((ts.map txt).map V.str) := by
            intro r ts
            induction ts with
            | nil => exact .nil
            | cons t ts ih => exact .cons (.str t) ih
          exact Post.newLst p1 l1 (hr r1 _) hq
      · exact False.elim p1
    · rename_i e _ _; cases e
    · exact False.elim p1
  | _ => exact False.elim p
end
end DL
end
section
set_option Elab.async false
set_option autoImplicit false
set_option linter.all false
set_option maxRecDepth 100000
set_option maxHeartbeats 2000000
/-! DLi: isinstance, what is walked over, targets, comprehensions. -/
namespace DL
open PySem PySem.Spec PyProof.Rows L2
section
variable {X : Cx} {G : Glob} {W : WX} {fa fb fc : Env → Store → Out D} {a b c : Expr}
/-! ### isinstance -/
def tyS : Ty → Str
  | .non => "NoneType"
  | .bool => "bool"
  | .int => "int"
  | .str => "str"
  | .tup => "tuple"
  | .lst => "list"
  | .dict => "dict"
theorem boot_ty {t : Ty} (h : t ≠ .non) : bootBuiltins (tyS t) = some (.type (tyN t)) := by
  cases t <;> first | rfl | exact absurd rfl h
theorem blt_ty {t : Ty} (h : t ≠ .non) : tyS t ∈ bltNames := by
  cases t <;> first | exact absurd rfl h | (simp [tyS, bltNames])
theorem kitOne_ty {K : PySem.W.Frag} {d : D} {t : Ty} (e : dTy d = some t) {u : Ty} (hu : u ≠ .non) : PySem.W.kitOne K (.type (tyN t)) (.type (tyN u)) = some (tyIs d u) := by
  rw [tyIs_eq e u hu]
  exact kit_ty (ty_kit t u)
theorem pe_tyN {t : Ty} {p : Pos} (h : t ≠ .non) (hg : Gl X (tyS t)) (hm : X.mg (tyS t) = none) : PE X (.Name (tyS t) p) (tC (.ty (tyN t))) :=
  pe_bltn hg hm (boot_ty h) rfl (by cases t <;> decide) (by cases t <;> decide)
theorem n_isi1 (hK : X.K = G.K) {t : Ty} {p p2 pos : Pos} (h : t ≠ .non) (hg : Gl X "isinstance") (hm : X.mg "isinstance" = none) (hgt : Gl X (tyS t)) (hmt : X.mg (tyS t) = none) (ha : PE X a (tD G W fa)) (hn : noStar a = true) :
    PE X (.Call (.Name "isinstance" p) [a, .Name (tyS t) p2] [] pos) (tD G W (fun σ S => (fa σ S).bind fun x S => isD [t] x S)) := by
  refine PE.mono (pe_callB call_isi hg hm rfl (pa_cons ha (pa_cons (pe_tyN h hgt hmt) pa_nil rfl) (starEach_cons hn)) (by decide) (by decide) (starEach_cons hn) rfl) fun σV H Q hh => ?_
  refine tX.step (rel := Rep G) hh fun vx σ x S r l s hx p => ?_
  obtain ⟨t1, e1, p1⟩ := isD_ok hx p
  refine ⟨vx, .ty (tyN t), .type (tyN t1), .type (tyN t), tyIs x t, rfl, .ty _, ?_, kitOne_ty e1 h, ?_⟩
  · rw [hK]; exact tyx_ok l (mu_len l) hx e1
  · have : ([t].any fun u => tyIs x u) = tyIs x t := by simp
    rw [this] at p1
    exact Post.here p1 l (.bl _)
/-- names of types -/
def tyNames : List Ty → List Expr → Bool
  | [], [] => true
  | t :: ts, .Name x _ :: es => decide (x = tyS t) && decide (t ≠ .non) && tyNames ts es
  | _, _ => false
theorem tys_non : ∀ {ts : List Ty} {es : List Expr}, tyNames ts es = true → ∀ u ∈ ts, u ≠ .non
  | [], _, _, _, h => by cases h
  | t :: ts, e :: es, h, u, hu => by
    cases e <;> first | cases h | simp only [tyNames, Bool.and_eq_true, decide_eq_true_eq] at h
    rcases List.mem_cons.mp hu with rfl | hu
    · exact h.1.2
    · exact tys_non h.2 u hu
  | _ :: _, [], h, _, _ => by cases h
theorem pa_tys : ∀ {ts : List Ty} {es : List Expr}, tyNames ts es = true → (∀ t ∈ ts, Gl X (tyS t) ∧ X.mg (tyS t) = none) → PA X es (fun _ H Q => Q (ts.map fun t => V.ty (tyN t)) H)
  | [], [], _, _ => PA.mono pa_nil fun σ H Q h => h
  | t :: ts, e :: es, h, hg => by
    cases e <;> first | cases h | simp only [tyNames, Bool.and_eq_true, decide_eq_true_eq] at h
    obtain ⟨⟨rfl, h2⟩, h3⟩ := h
    exact PA.mono (pa_cons (pe_tyN h2 (hg t List.mem_cons_self).1 (hg t List.mem_cons_self).2) (pa_tys h3 fun u hu => hg u (List.mem_cons_of_mem _ hu)) (starEach_cons rfl)) fun σ H Q h => h
  | [], _ :: _, h, _ => by cases h
  | _ :: _, [], h, _ => by cases h
theorem paired_tys : ∀ ts : List Ty, Paired ClsV (ts.map fun t => V.ty (tyN t)) (ts.map fun t => Value.type (tyN t))
  | [] => .nil
  | t :: ts => .cons (.ty _) (paired_tys ts)
theorem n_isiT (hK : X.K = G.K) {ts : List Ty} {es : List Expr} {k : Nat} {p p2 pos : Pos} (h : tyNames ts es = true) (hz : ts.length ≤ 100) (hg : Gl X "isinstance") (hm : X.mg "isinstance" = none) (hgt : ∀ t ∈ ts, Gl X (tyS t) ∧ X.mg (tyS t) = none) (ha : PE X a (tD G W fa)) (hn : noStar a = true) :
    PE X (.Call (.Name "isinstance" p) [a, .Tuple es k p2] [] pos) (tD G W (fun σ S => (fa σ S).bind fun x S => isD ts x S)) := by
  refine PE.mono (pe_callB call_isiT hg hm rfl (pa_cons ha (pa_cons (pe_tup (pa_tys h hgt)) pa_nil rfl) (starEach_cons hn)) (by decide) (by decide) (starEach_cons hn) rfl) fun σV H Q hh => ?_
  refine tX.step (rel := Rep G) hh fun vx σ x S r l s hx p => ?_
  obtain ⟨t1, e1, p1⟩ := isD_ok hx p
  refine ⟨by rw [List.length_map]; exact Nat.le_trans hz (by decide), fun q hq => ?_⟩
  have x1 := Ext.put l hq (.tup (ts.map fun t => V.ty (tyN t)))
  have l1 := Rl.put l hq (.tup (ts.map fun t => V.ty (tyN t)))
  refine ⟨vx, q, _, .type (tyN t1), _, _, rfl, upd_same, paired_tys ts, ?_, kitAny_tys e1 ts (tys_non h), ?_⟩
  · rw [hK]; exact tyx_ok l1 (mu_len l1) (hx.ext x1) e1
  · exact Post.here (Post.from x1 p1) l1 (.bl _)

/-! ### what is walked over -/
/-- J gives ds, wherever things have grown to -/
def ItOk (G : Glob) (r : RS) (ds : List D) (J : It) : Prop := ∀ r' S, Grow r r' → Rl G r' S →
  (∀ i, ds.length ≤ i → J.stop i r'.H) ∧ ∀ i d, ds[i]? = some d → J.go i r'.H ∧ ∀ x H', J.yld i r'.H x H' → ∃ r'', r''.H = H' ∧ Ext r' r'' ∧ Rl G r'' S ∧ Rep G r'' d x
def tI (G : Glob) (W : WX) (f : Env → Store → Out (List D)) : TI := tX G W (ItOk G) f
theorem ItOk.lst {r : RS} {a : Addr} {ds : List D} {vs : List V} (h : Rd r.H a (.lst vs)) (z : ¬ r.Z a) (q : Reps G r ds vs) : ItOk G r ds (Itl G.K a) := fun r' S g l => by
  have sq : SqL G.K r'.H a vs := .inl (rd_grow g h z).1
  have q' := q.grow g
  refine ⟨fun i hi => ⟨vs, sq, by rw [← q.length]; exact hi⟩, fun i d hd => ?_⟩
  obtain ⟨v, e, rv⟩ := q'.get hd
  refine ⟨⟨vs, v, sq, e⟩, fun x H' ⟨eH, y⟩ => ⟨r', eH.symm, Ext.refl _, l, ?_⟩⟩
  have := y vs sq
  rw [e] at this; cases this
  exact rv
theorem ItOk.tup {r : RS} {a : Addr} {ds : List D} {vs : List V} (h : Ft G r a vs) (q : Reps G r ds vs) : ItOk G r ds (Itt G.K a) := fun r' S g l => by
  have sq : SqT G.K r'.H a vs := (h.grow g).sq
  have q' := q.grow g
  refine ⟨fun i hi => ⟨vs, sq, by rw [← q.length]; exact hi⟩, fun i d hd => ?_⟩
  obtain ⟨v, e, rv⟩ := q'.get hd
  refine ⟨⟨vs, v, sq, e⟩, fun x H' ⟨eH, y⟩ => ⟨r', eH.symm, Ext.refl _, l, ?_⟩⟩
  have := y vs sq
  rw [e] at this; cases this
  exact rv
theorem charsD_get : ∀ (x : List Nat) (i : Nat) (d : D), (charsD x)[i]? = some d → ∃ c, x[i]? = some c ∧ d = .str [c]
  | [], i, d, h => by simp [charsD] at h
  | c :: cs, 0, d, h => by simp [charsD] at h; exact ⟨c, rfl, h.symm⟩
  | c :: cs, i + 1, d, h => by
    obtain ⟨k, e, f⟩ := charsD_get cs i d (by simpa [charsD] using h)
    exact ⟨k, by simpa using e, f⟩
theorem charsD_length : ∀ x : List Nat, (charsD x).length = x.length
  | [] => rfl
  | c :: cs => by simp [charsD, charsD_length cs]
theorem ItOk.str {r : RS} {x : List Nat} : ItOk G r (charsD x) (Its (txt x)) := fun r' S g l => by
  refine ⟨fun i hi => ?_, fun i d hd => ?_⟩
  · show (txt x).cps.size ≤ i
    rw [charsD_length] at hi
    simpa [txt] using hi
  · obtain ⟨c, e, rfl⟩ := charsD_get x i d hd
    refine ⟨?_, fun v H' ⟨eH, c', e', ev⟩ => ⟨r', eH.symm, Ext.refl _, l, ?_⟩⟩
    · show i < (txt x).cps.size
      have := (List.getElem?_eq_some_iff.mp e).1
      simpa [txt] using this
    · have e' : x[i]? = some c' := by simpa [txt] using e'
      rw [e] at e'; cases e'
      rw [ev]
      exact .str [c]
theorem rangeD_get : ∀ (n : Nat) (lo c : Int) (i : Nat) (d : D), (rangeD lo c n)[i]? = some d → i < n ∧ d = .int (lo + (i : Int) * c)
  | 0, lo, c, i, d, h => by simp [rangeD] at h
  | n + 1, lo, c, 0, d, h => by simp [rangeD] at h; exact ⟨by omega, by rw [← h]; simp⟩
  | n + 1, lo, c, i + 1, d, h => by
    obtain ⟨e, f⟩ := rangeD_get n (lo + c) c i d (by simpa [rangeD] using h)
    refine ⟨by omega, ?_⟩
    rw [f]
    congr 1
    have : ((i + 1 : Nat) : Int) * c = (i : Int) * c + c := by rw [Int.natCast_add, Int.add_mul]; simp
    rw [this]; omega
theorem rangeD_length : ∀ (n : Nat) (lo c : Int), (rangeD lo c n).length = n
  | 0, _, _ => rfl
  | n + 1, lo, c => by simp [rangeD, rangeD_length n]
theorem ItOk.rng {r : RS} {lo : Int} {n : Nat} : ItOk G r (rangeD lo 1 n) (Itr lo n) := fun r' S g l => by
  refine ⟨fun i hi => by rw [rangeD_length] at hi; exact hi, fun i d hd => ?_⟩
  obtain ⟨e, rfl⟩ := rangeD_get n lo 1 i d hd
  refine ⟨e, fun v H' ⟨eH, ev⟩ => ⟨r', eH.symm, Ext.refl _, l, ?_⟩⟩
  rw [ev, Int.mul_one]
  exact .int _
theorem ItOk.rng3 {r : RS} {lo c : Int} {n : Nat} : ItOk G r (rangeD lo c n) (Itc lo c n) := fun r' S g l => by
  refine ⟨fun i hi => by rw [rangeD_length] at hi; exact hi, fun i d hd => ?_⟩
  obtain ⟨e, rfl⟩ := rangeD_get n lo c i d hd
  refine ⟨e, fun v H' ⟨eH, ev⟩ => ⟨r', eH.symm, Ext.refl _, l, ?_⟩⟩
  rw [ev]
  exact .int _
theorem zipD_get : ∀ (xs ys : List D) (i : Nat) (d : D), (zipD xs ys)[i]? = some d → ∃ x y, xs[i]? = some x ∧ ys[i]? = some y ∧ d = .tup [x, y]
  | [], ys, i, d, h => by simp [zipD] at h
  | _ :: _, [], i, d, h => by simp [zipD] at h
  | x :: xs, y :: ys, 0, d, h => by simp [zipD] at h; exact ⟨x, y, rfl, rfl, h.symm⟩
  | x :: xs, y :: ys, i + 1, d, h => by
    obtain ⟨u, v, e, f, g⟩ := zipD_get xs ys i d (by simpa [zipD] using h)
    exact ⟨u, v, by simpa using e, by simpa using f, g⟩
theorem zipD_length : ∀ (xs ys : List D), (zipD xs ys).length = min xs.length ys.length
  | [], ys => by simp [zipD]
  | _ :: _, [] => by simp [zipD]
  | x :: xs, y :: ys => by simp [zipD, zipD_length xs ys]
theorem enumD_get : ∀ (xs : List D) (k : Int) (i : Nat) (d : D), (enumD k xs)[i]? = some d → ∃ x, xs[i]? = some x ∧ d = .tup [.int (k + i), x]
  | [], k, i, d, h => by simp [enumD] at h
  | x :: xs, k, 0, d, h => by simp [enumD] at h; exact ⟨x, rfl, by rw [← h]; simp⟩
  | x :: xs, k, i + 1, d, h => by
    obtain ⟨u, e, g⟩ := enumD_get xs (k + 1) i d (by simpa [enumD] using h)
    refine ⟨u, by simpa using e, ?_⟩
    rw [g]
    have : k + 1 + (i : Int) = k + ((i + 1 : Nat) : Int) := by omega
    rw [this]
theorem enumD_length : ∀ (xs : List D) (k : Int), (enumD k xs).length = xs.length
  | [], _ => rfl
  | x :: xs, k => by simp [enumD, enumD_length xs]
theorem ItOk.zip {r : RS} {a b : Addr} {ds es : List D} {vs ws : List V} (h : Rd r.H a (.lst vs)) (z : ¬ r.Z a) (q : Reps G r ds vs) (h' : Rd r.H b (.lst ws)) (z' : ¬ r.Z b) (q' : Reps G r es ws) : ItOk G r (zipD ds es) (Itz G.K a b) := fun r' S g l => by
  have sq : SqL G.K r'.H a vs := .inl (rd_grow g h z).1
  have sq' : SqL G.K r'.H b ws := .inl (rd_grow g h' z').1
  refine ⟨fun i hi => ⟨vs, ws, sq, sq', ?_⟩, fun i d hd => ?_⟩
  · rw [zipD_length] at hi
    rw [← q.length, ← q'.length]
    omega
  · obtain ⟨x, y, ex, ey, rfl⟩ := zipD_get ds es i d hd
    obtain ⟨v, e, rv⟩ := (q.grow g).get ex
    obtain ⟨w, e', rw'⟩ := (q'.grow g).get ey
    refine ⟨⟨vs, ws, v, w, sq, sq', e, e'⟩, fun u H' ⟨T, x2, y2, eu, hT, eH, k1, k2⟩ => ?_⟩
    have z1 := k1 vs sq
    rw [e] at z1; cases z1
    have z2 := k2 ws sq'
    rw [e'] at z2; cases z2
    subst eu eH
    have xx := Ext.put l hT (.tup [v, w])
    exact ⟨r'.put T (.tup [v, w]), rfl, xx, Rl.put l hT _, .tup (.inl ⟨.inl put_at, Rl.noZ l hT⟩) (.cons (rv.ext xx) (.cons (rw'.ext xx) .nil))⟩
theorem ItOk.zipT {r : RS} {a b : Addr} {ds es : List D} {vs ws : List V} (h : Ft G r a vs) (q : Reps G r ds vs) (h' : Ft G r b ws) (q' : Reps G r es ws) : ItOk G r (zipD ds es) (RZ.ItzT G.K a b) := fun r' S g l => by
  have sq : SqT G.K r'.H a vs := (h.grow g).sq
  have sq' : SqT G.K r'.H b ws := (h'.grow g).sq
  refine ⟨fun i hi => ⟨vs, ws, sq, sq', ?_⟩, fun i d hd => ?_⟩
  · rw [zipD_length] at hi
    rw [← q.length, ← q'.length]
    omega
  · obtain ⟨x, y, ex, ey, rfl⟩ := zipD_get ds es i d hd
    obtain ⟨v, e, rv⟩ := (q.grow g).get ex
    obtain ⟨w, e', rw'⟩ := (q'.grow g).get ey
    refine ⟨⟨vs, ws, v, w, sq, sq', e, e'⟩, fun u H' ⟨T, x2, y2, eu, hT, eH, k1, k2⟩ => ?_⟩
    have z1 := k1 vs sq
    rw [e] at z1; cases z1
    have z2 := k2 ws sq'
    rw [e'] at z2; cases z2
    subst eu eH
    have xx := Ext.put l hT (.tup [v, w])
    exact ⟨r'.put T (.tup [v, w]), rfl, xx, Rl.put l hT _, .tup (.inl ⟨.inl put_at, Rl.noZ l hT⟩) (.cons (rv.ext xx) (.cons (rw'.ext xx) .nil))⟩
theorem ItOk.enum {r : RS} {a : Addr} {ds : List D} {vs : List V} (h : Rd r.H a (.lst vs)) (z : ¬ r.Z a) (q : Reps G r ds vs) : ItOk G r (enumD 0 ds) (Ite G.K a) := fun r' S g l => by
  have sq : SqL G.K r'.H a vs := .inl (rd_grow g h z).1
  refine ⟨fun i hi => ⟨vs, sq, ?_⟩, fun i d hd => ?_⟩
  · rw [enumD_length] at hi
    rw [← q.length]; exact hi
  · obtain ⟨x, ex, rfl⟩ := enumD_get ds 0 i d hd
    obtain ⟨v, e, rv⟩ := (q.grow g).get ex
    refine ⟨⟨vs, v, sq, e⟩, fun u H' ⟨T, x2, eu, hT, eH, k1⟩ => ?_⟩
    have z1 := k1 vs sq
    rw [e] at z1; cases z1
    subst eu eH
    have xx := Ext.put l hT (.tup [.int (i : Nat), v])
    refine ⟨r'.put T (.tup [.int (i : Nat), v]), rfl, xx, Rl.put l hT _, .tup (.inl ⟨.inl put_at, Rl.noZ l hT⟩) (.cons ?_ (.cons (rv.ext xx) .nil))⟩
    rw [Int.zero_add]
    exact .int _
/-! the forms -/
variable {tg : Expr}
/-- any of three readings -/
theorem PI.or {e : Expr} {t t' : TI} (h : PI X tg e t) (h' : PI X tg e t') : PI X tg e (fun σ H R => t σ H R ∨ t' σ H R) :=
  ⟨fun pins s σ H R I z => z.elim (h.run pins s σ H R I) (h'.run pins s σ H R I)⟩
theorem n_seq (hK : X.K = G.K) (ha : PE X a (tD G W fa)) : PI X tg a (tI G W (fun σ S => (fa σ S).bind fun x S => oItems (walk x S) S)) := by
  refine PI.mono (PI.or (pi_tup ha) (PI.or (pi_list ha) (pi_str ha))) fun σV H R ⟨σ, S, r, e, l, s, p⟩ => ?_
  rw [hK]
  dsimp only at p
  cases h : fa σ S with
  | bad => rw [h] at p; exact False.elim p
  | exc x S1 => rw [h] at p; exact .inl ⟨σ, S, r, e, l, s, by rw [h]; exact p⟩
  | ok d S1 =>
    rw [h] at p
    cases d with
    | tup ds =>
      refine .inl ⟨σ, S, r, e, l, s, ?_⟩
      rw [h]
      intro v r' x l' q
      cases q with
      | tup f q => exact ⟨_, rfl, ⟨_, f.sq⟩, p _ r' x l' (ItOk.tup f q)⟩
    | lst ds =>
      refine .inr (.inl ⟨σ, S, r, e, l, s, ?_⟩)
      rw [h]
      intro v r' x l' q
      cases q with
      | lst f z q => exact ⟨_, rfl, ⟨_, .inl f⟩, p _ r' x l' (ItOk.lst f z q)⟩
    | str y =>
      refine .inr (.inr ⟨σ, S, r, e, l, s, ?_⟩)
      rw [h]
      intro v r' x l' q
      cases q with
      | str z => exact ⟨_, rfl, p _ r' x l' ItOk.str⟩
    | non => exact False.elim p
    | bl k => exact False.elim p
    | int i => exact False.elim p
    | ref n => exact False.elim p
    | fn g => exact False.elim p
    | exn c d => exact False.elim p
    | scr ns => exact False.elim p
    | dic => exact False.elim p
theorem small_of {i : Int} (h : small62 i = true) : -(2 ^ 62) ≤ i ∧ i < 2 ^ 62 := by
  unfold small62 at h
  rw [Bool.and_eq_true] at h
  exact ⟨of_decide_eq_true h.1, of_decide_eq_true h.2⟩
theorem n_rng1 {p pos : Pos} (hg : Gl X "range") (hm : X.mg "range" = none) (ha : PE X a (tD G W fa)) (hn : noStar a = true) : PI X tg (.Call (.Name "range" p) [a] [] pos) (tI G W (fun σ S => (fa σ S).bind fun x S => rng2 (.int 0) x S)) := by
  refine PI.mono (pi_range1 hg hm (pa_cons ha pa_nil (starEach_cons hn)) (starEach_cons hn)) fun σV H R h => ?_
  refine tX.step (rel := Rep G) h fun vx σ x S r l s hx p => ?_
  cases hx with
  | int i =>
    have p : Post G (ItOk G) W σV r (if (small62 0 && small62 i) = true then .ok (rangeD 0 1 (i - 0).toNat) S else .bad) R := p
    split at p
    · rename_i hs
      rw [Bool.and_eq_true] at hs
      refine ⟨_, rfl, (small_of hs.2).1, (small_of hs.2).2, ?_⟩
      have q := Post.here p l (b := Itr 0 _) ItOk.rng
      rw [Int.sub_zero] at q
      exact q
    · exact False.elim p
  | _ => exact False.elim p
theorem n_rng2 {p pos : Pos} (hg : Gl X "range") (hm : X.mg "range" = none) (ha : PE X a (tD G W fa)) (hb : PE X b (tD G W fb)) (hn : noStar a = true) (hn' : noStar b = true) : PI X tg (.Call (.Name "range" p) [a, b] [] pos) (tI G W (fun σ S => (fa σ S).bind fun x S => (fb σ S).bind fun y S => rng2 x y S)) := by
  refine PI.mono (pi_range2 hg hm (pa_cons ha (pa_cons hb pa_nil (starEach_cons hn')) (starEach_cons hn)) (by rw [starEach_cons hn, starEach_cons hn']; rfl) (starEach_cons hn')) fun σV H R h => ?_
  refine tX.step (rel := Rep G) h fun vx σ x S r l s hx p => ?_
  refine ⟨σ, S, r, rfl, l, s, (Post.bind (rel := Rep G) p).mono fun vy H1 ⟨y, S1, r1, e1, x1, l1, hy, p1⟩ => ?_⟩
  subst e1
  unfold rng2 at p1
  split at p1
  · cases hx
    cases hy
    split at p1
    · rename_i hs
      rw [Bool.and_eq_true] at hs
      exact ⟨_, _, rfl, ⟨(small_of hs.1).1, (small_of hs.1).2, (small_of hs.2).1, (small_of hs.2).2⟩, Post.here p1 l1 ItOk.rng⟩
    · exact False.elim p1
  · exact False.elim p1
theorem n_rng3 {p pos : Pos} (hg : Gl X "range") (hm : X.mg "range" = none) (ha : PE X a (tD G W fa)) (hb : PE X b (tD G W fb)) (hc : PE X c (tD G W fc)) (hn : noStar a = true) (hn' : noStar b = true) (hn2 : noStar c = true) :
    PI X tg (.Call (.Name "range" p) [a, b, c] [] pos) (tI G W (fun σ S => (fa σ S).bind fun x S => (fb σ S).bind fun y S => (fc σ S).bind fun z S => rng3 x y z S)) := by
  refine PI.mono (pi_range3 hg hm (pa_cons ha (pa_cons hb (pa_cons hc pa_nil (starEach_cons hn2)) (starEach_cons hn')) (starEach_cons hn)) (starEach_cons hn) (any_star (by simp [hn', hn2]))) fun σV H R h => ?_
  refine tX.step (rel := Rep G) h fun vx σ x S r l s hx p => ?_
  refine ⟨σ, S, r, rfl, l, s, (Post.bind (rel := Rep G) p).mono fun vy H1 ⟨y, S1, r1, e1, x1, l1, hy, p1⟩ => ?_⟩
  subst e1
  refine ⟨σ, S1, r1, rfl, l1, s.ext x1, (Post.bind (rel := Rep G) p1).mono fun vz H1 ⟨z, S2, r2, e2, x2, l2, hz, p2⟩ => ?_⟩
  subst e2
  unfold rng3 at p2
  split at p2
  · cases hx
    cases hy
    cases hz
    split at p2
    · rename_i i j k hs
      simp only [Bool.and_eq_true, decide_eq_true_eq] at hs
      exact ⟨_, _, _, _, rfl, ⟨hs.1.1.1, hs.1.1.2, hs.1.2, (Int.toNat_of_nonneg hs.2).symm⟩, Post.here p2 l2 ItOk.rng3⟩
    · exact False.elim p2
  · exact False.elim p2
theorem n_zip (hK : X.K = G.K) {elts : List Expr} {kk : Nat} {tpos p pos : Pos} (hg : Gl X "zip") (hm : X.mg "zip" = none) (ha : PE X a (tD G W fa)) (hb : PE X b (tD G W fb)) (hn : noStar a = true) (hn' : noStar b = true) :
    PI X (.Tuple elts kk tpos) (.Call (.Name "zip" p) [a, b] [] pos) (tI G W (fun σ S => (fa σ S).bind fun x S => (fb σ S).bind fun y S => oItems (zipOf x y) S)) := by
  refine PI.mono (RZ.pi_zipA hg hm (pa_cons ha (pa_cons hb pa_nil (starEach_cons hn')) (starEach_cons hn)) (starEach_cons hn) (by rw [starEach_cons hn']; rfl)) fun σV H R h => ?_
  refine tX.step (rel := Rep G) h fun vx σ x S r l s hx p => ?_
  refine ⟨σ, S, r, rfl, l, s, (Post.bind (rel := Rep G) p).mono fun vy H1 ⟨y, S1, r1, e1, x1, l1, hy, p1⟩ => ?_⟩
  subst e1
  rw [hK]
  unfold zipOf at p1
  split at p1
  · cases hx.ext x1 with
    | lst f z q =>
      cases hy with
      | lst f' z' q' => exact ⟨_, _, _, _, rfl, .inl ⟨.inl f, .inl f', Post.here p1 l1 (ItOk.zip f z q f' z' q')⟩⟩
  · cases hx.ext x1 with
    | tup f q =>
      cases hy with
      | tup f' q' => exact ⟨_, _, _, _, rfl, .inr ⟨f.sq, f'.sq, Post.here p1 l1 (ItOk.zipT f q f' q')⟩⟩
  · exact False.elim p1
theorem n_enum (hK : X.K = G.K) {elts : List Expr} {kk : Nat} {tpos p pos : Pos} (hg : Gl X "enumerate") (hm : X.mg "enumerate" = none) (ha : PE X a (tD G W fa)) (hn : noStar a = true) :
    PI X (.Tuple elts kk tpos) (.Call (.Name "enumerate" p) [a] [] pos) (tI G W (fun σ S => (fa σ S).bind fun x S => oItems ((listOf x).map (enumD 0)) S)) := by
  refine PI.mono (pi_enum hg hm (pa_cons ha pa_nil (starEach_cons hn)) (starEach_cons hn)) fun σV H R h => ?_
  refine tX.step (rel := Rep G) h fun vx σ x S r l s hx p => ?_
  rw [hK]
  unfold listOf at p
  split at p
  · cases hx with
    | lst f z q => exact ⟨_, _, rfl, .inl f, Post.here p l (ItOk.enum f z q)⟩
  · exact False.elim p

/-! ### targets of loops: names and tuples of names -/
/-- which slots a target sets -/
def tgSlots : Tg → List Nat
  | .nm i => [i]
  | .tp ts => tgsSlots ts
  | .sub _ _ => []
where tgsSlots : List Tg → List Nat
  | [] => []
  | t :: ts => tgSlots t ++ tgsSlots ts
abbrev tgsSlots := tgSlots.tgsSlots
/-- only these slots differ -/
def Diff (is : List Nat) (σ σ' : L2.St) : Prop := σ'.length = σ.length ∧ ∀ j, j ∉ is → σ'[j]? = σ[j]?
theorem Diff.refl (σ : L2.St) : Diff [] σ σ := ⟨rfl, fun _ _ => rfl⟩
theorem Diff.trans {is js : List Nat} {σ σ' σ'' : L2.St} (h : Diff is σ σ') (h' : Diff js σ' σ'') : Diff (is ++ js) σ σ'' :=
  ⟨h'.1.trans h.1, fun j hj => by
    rw [List.mem_append, not_or] at hj
    rw [h'.2 j hj.2, h.2 j hj.1]⟩
theorem wipe_in {σ : L2.St} {i : Nat} : ∀ {vs : List Nat}, i ∈ vs → i < σ.length → (wipe σ vs)[i]? = some none
  | v :: vs, h, hl => by
    unfold wipe
    by_cases hi : v = i
    · subst hi
      rw [List.getElem?_set_self (by rw [wipe_length]; exact hl)]
    · rw [List.getElem?_set_ne hi]
      exact wipe_in (by rcases List.mem_cons.mp h with q | q; exact absurd q.symm hi; exact q) hl
theorem wipe_ge {σ : L2.St} {i : Nat} {vs : List Nat} (h : σ.length ≤ i) : (wipe σ vs)[i]? = none := by
  rw [List.getElem?_eq_none]; rw [wipe_length]; exact h
theorem Diff.wipe {is : List Nat} {σ σ' : L2.St} (h : Diff is σ σ') {vs : List Nat} (hi : ∀ i ∈ is, i ∈ vs) : wipe σ' vs = wipe σ vs := by
  apply List.ext_getElem?
  intro j
  by_cases hl : j < σ.length
  · by_cases hv : j ∈ vs
    · rw [wipe_in hv hl, wipe_in hv (by rw [h.1]; exact hl)]
    · rw [wipe_out hv, wipe_out hv]
      exact h.2 j fun q => hv (hi j q)
  · rw [wipe_ge (σ := σ') (by rw [h.1]; omega), wipe_ge (σ := σ) (by omega)]
theorem wipe_wipe (σ : L2.St) (vs : List Nat) : wipe (wipe σ vs) vs = wipe σ vs := by
  apply List.ext_getElem?
  intro j
  by_cases hl : j < σ.length
  · by_cases hv : j ∈ vs
    · rw [wipe_in hv (by rw [wipe_length]; exact hl), wipe_in hv hl]
    · rw [wipe_out hv]
  · rw [wipe_ge (by rw [wipe_length]; omega), wipe_ge (by omega)]
/-- an assignment's reading -/
def gD (G : Glob) (is : List Nat) (f : D → Env → Option Env) : TG := fun v σV H Q => ∃ d σ S r σ', r.H = H ∧ Rl G r S ∧ RSt G r σ σV ∧ Rep G r d v ∧ f d σ = some σ' ∧ ∀ σV', RSt G r σ' σV' → Diff is σV σV' → Q σV' H
def gDs (G : Glob) (is : List Nat) (f : List D → Env → Option Env) : TGs := fun vs σV H Q => ∃ ds σ S r σ', r.H = H ∧ Rl G r S ∧ RSt G r σ σV ∧ Reps G r ds vs ∧ f ds σ = some σ' ∧ ∀ σV', RSt G r σ' σV' → Diff is σV σV' → Q σV' H
theorem PG.mono {tg : Expr} {t t' : TG} (h : PG X tg t) (q : ∀ v σ H Q, t' v σ H Q → t v σ H Q) : PG X tg t' := ⟨fun pins s σ H v u Q I r z => h.run pins s σ H v u Q I r (q v σ H Q z)⟩
theorem PGs.mono {tg : List Expr} {t t' : TGs} (h : PGs X tg t) (q : ∀ v σ H Q, t' v σ H Q → t v σ H Q) : PGs X tg t' := ⟨fun pins s σ H v u Q I r z => h.run pins s σ H v u Q I r (q v σ H Q z)⟩
theorem gd_name {i : Nat} {x : Str} {pos : Pos} (hN : X.N.Nodup) (hi : X.N[i]? = some x) (hx : Loc X.env.scope x) (hf : X.fn x = true ∨ X.env.scope.names.lookup x = some .local) : PG X (.Name x pos) (gD G (tgSlots (.nm i)) (asg (.nm i))) := by
  refine PG.mono (pg_name hN hi hx hf) fun v σV H Q ⟨d, σ, S, r, σ', e, l, s, hd, ha, q⟩ => ?_
  subst e
  unfold asg at ha
  cases ha
  exact q _ (s.set hd i) ⟨by simp, fun j hj => by rw [List.getElem?_set_ne]; intro h; exact hj (by subst h; simp [tgSlots])⟩
theorem gd_nil : PGs X [] (gDs G (tgsSlots []) (asgs [])) := by
  refine PGs.mono pgs_nil fun v σV H Q ⟨d, σ, S, r, σ', e, l, s, hd, ha, q⟩ => ?_
  subst e
  cases d with
  | nil =>
    unfold asgs at ha
    cases ha
    cases hd
    exact ⟨rfl, q _ s (Diff.refl _)⟩
  | cons a b => unfold asgs at ha; cases ha
theorem gd_cons {t : Tg} {ts : List Tg} {e : Expr} {es : List Expr} (h1 : PG X e (gD G (tgSlots t) (asg t))) (h2 : PGs X es (gDs G (tgsSlots ts) (asgs ts)))
    (hs : (assignEach (e :: es) X.env).map (·.2) = assign e X.env :: (assignEach es X.env).map (·.2)) : PGs X (e :: es) (gDs G (tgsSlots (t :: ts)) (asgs (t :: ts))) := by
  refine PGs.mono (pgs_cons h1 h2 hs) fun v σV H Q ⟨d, σ, S, r, σ', e, l, s, hd, ha, q⟩ => ?_
  subst e
  cases d with
  | nil => unfold asgs at ha; cases ha
  | cons a b =>
    unfold asgs at ha
    cases hq : asg t a σ with
    | none => rw [hq] at ha; cases ha
    | some σ1 =>
      rw [hq] at ha
      cases hd with
      | cons h hs => exact ⟨_, _, rfl, a, σ, S, r, σ1, rfl, l, s, h, hq, fun σV1 s1 d1 => ⟨b, σ1, S, r, σ', rfl, l, s1, hs, ha, fun σV2 s2 d2 => q σV2 s2 (d1.trans d2)⟩⟩
theorem gd_tup (hK : X.K = G.K) {ts : List Tg} {es : List Expr} {k : Nat} {pos : Pos} (hc : X.calm = true) (h : PGs X es (gDs G (tgsSlots ts) (asgs ts))) (hl : ts.length = es.length)
    (hn : (assignEach es X.env).length = es.length) (hst : (assignEach es X.env).findIdx? (·.1) = none) : PG X (.Tuple es k pos) (gD G (tgSlots (.tp ts)) (asg (.tp ts))) := by
  refine PG.mono (pg_tup hc h hn hst) fun v σV H Q ⟨d, σ, S, r, σ', e, l, s, hd, ha, q⟩ => ?_
  subst e
  cases d with
  | tup ds =>
    have ha : asgs ts ds σ = some σ' := by unfold asg at ha; exact ha
    cases hd with
    | tup f hs =>
      refine ⟨_, _, rfl, by rw [hK]; exact f.sq, ?_, ds, σ, S, r, σ', rfl, l, s, hs, ha, q⟩
      rw [← hs.length, ← hl]
      have : ∀ (ts : List Tg) (ds : List D) (σ σ' : Env), asgs ts ds σ = some σ' → ds.length = ts.length := by
        intro ts
        induction ts with
        | nil => intro ds σ σ' h; cases ds with
          | nil => rfl
          | cons a b => unfold asgs at h; cases h
        | cons t ts ih => intro ds σ σ' h; cases ds with
          | nil => unfold asgs at h; cases h
          | cons a b =>
            unfold asgs at h
            cases hq : asg t a σ with
            | none => rw [hq] at h; cases h
            | some σ1 => rw [hq] at h; simp [ih b σ1 σ' h]
      exact this _ _ _ _ ha
  | _ => unfold asg at ha; cases ha
end
end DL
end
section
set_option Elab.async false
set_option autoImplicit false
set_option linter.all false
set_option maxRecDepth 100000
set_option maxHeartbeats 2000000
/-! DLj: list comprehensions. -/
namespace DL
open PySem PySem.Spec PyProof.Rows L2
section
variable {G : Glob}
/-- a new list at La that is still being made -/
def RS.mk1 (r : RS) (La : Addr) (vs : List V) : RS := { r with H := upd r.H La (.lst vs), Z := fun a => r.Z a ∨ a = La }
/-- .. changed -/
def RS.mkW (r : RS) (La : Addr) (vs : List V) : RS := { r with H := upd r.H La (.lst vs) }
/-- .. settled -/
def RS.mkE (r : RS) (La : Addr) : RS := { r with Z := fun a => r.Z a ∧ a ≠ La }
/-- La is a list that is being made since r1 -/
structure Mk (G : Glob) (r1 r : RS) (S : Store) (La : Addr) (acc : List D) (vs : List V) : Prop where
  new : r1.H La = none
  ext : Ext r1 r
  rl : Rl G r S
  at_ : r.H La = some (.lst vs)
  z : r.Z La
  nm : La ∉ r.mu
  rep : Reps G r acc vs
theorem Mk.start {r1 : RS} {S : Store} {La : Addr} (l : Rl G r1 S) (h : r1.H La = none) : Mk G r1 (r1.mk1 La []) S La [] [] := by
  have nm : La ∉ r1.mu := fun m => l.zH La (l.inZ La m) h
  have ext : Ext r1 (r1.mk1 La []) := by
    refine ⟨⟨fun _ _ q => q, fun a u e z => ⟨?_, fun q => ?_⟩, fun _ _ q => q⟩, fun a u e z n => ⟨?_, .inl z, n⟩⟩
    · show upd r1.H La _ a = some u
      rw [upd_ne (ne_of_none e h)]; exact e
    · rcases q with q | q
      · exact z q
      · exact ne_of_none e h q
    · show upd r1.H La _ a = some u
      rw [upd_ne (ne_of_none e h)]; exact e
  refine ⟨h, ext, ⟨l.len, l.nd, fun a m => .inl (l.inZ a m), fun a z => ?_, fun n xs e => ?_⟩, upd_same, .inr rfl, nm, .nil⟩
  · show upd r1.H La _ a ≠ none
    by_cases ha : a = La
    · rw [ha, upd_same]; intro q; cases q
    · rw [upd_ne ha]
      rcases z with z | z
      · exact l.zH a z
      · exact absurd z ha
  · obtain ⟨a, vs, h1, h2, h3⟩ := l.obj n xs e
    exact ⟨a, vs, h1, by show upd r1.H La _ a = _; rw [upd_ne (ne_of_none h2 h)]; exact h2, h3.ext ext⟩
theorem Mk.step {r1 r r' : RS} {S S' : Store} {La : Addr} {acc : List D} {vs : List V} (m : Mk G r1 r S La acc vs) (e : Ext r r') (l : Rl G r' S') : Mk G r1 r' S' La acc vs :=
  let ⟨b1, b2, b3⟩ := e.bld La _ m.at_ m.z m.nm
  ⟨m.new, m.ext.trans e, l, b1, b2, b3, m.rep.ext e⟩
theorem Mk.app {r1 r : RS} {S : Store} {La : Addr} {acc : List D} {vs : List V} (m : Mk G r1 r S La acc vs) {d : D} {v : V} (h : Rep G r d v) : Mk G r1 (r.mkW La (vs ++ [v])) S La (acc ++ [d]) (vs ++ [v]) := by
  have gr : Grow r (r.mkW La (vs ++ [v])) := ⟨fun _ _ q => q, fun a u e z => ⟨by show upd r.H La _ a = some u; rw [upd_ne (fun q => z (by rw [q]; exact m.z))]; exact e, z⟩, fun _ _ q => q⟩
  refine ⟨m.new, ⟨⟨m.ext.mu, fun a u e z => ⟨?_, (m.ext.frz a u e z).2⟩, m.ext.nu⟩, fun a u e z n => ?_⟩, ⟨m.rl.len, m.rl.nd, m.rl.inZ, fun a z => ?_, fun n xs e => ?_⟩, upd_same, m.z, m.nm, (m.rep.grow gr).append (.cons (h.grow gr) .nil)⟩
  · show upd r.H La _ a = some u
    rw [upd_ne (ne_of_none e m.new)]; exact (m.ext.frz a u e z).1
  · obtain ⟨b1, b2, b3⟩ := m.ext.bld a u e z n
    exact ⟨by show upd r.H La _ a = some u; rw [upd_ne (ne_of_none e m.new)]; exact b1, b2, b3⟩
  · show upd r.H La _ a ≠ none
    by_cases ha : a = La
    · rw [ha, upd_same]; intro q; cases q
    · rw [upd_ne ha]; exact m.rl.zH a z
  · obtain ⟨a, ws, h1, h2, h3⟩ := m.rl.obj n xs e
    refine ⟨a, ws, h1, ?_, h3.grow gr⟩
    show upd r.H La _ a = _
    rw [upd_ne (fun q => m.nm (by rw [← q]; exact List.mem_of_getElem? h1))]; exact h2
theorem Mk.end_ {r1 r : RS} {S : Store} {La : Addr} {acc : List D} {vs : List V} (m : Mk G r1 r S La acc vs) : Ext r1 (r.mkE La) ∧ Rl G (r.mkE La) S ∧ Rep G (r.mkE La) (.lst acc) (.ref La) := by
  have gr : Grow r (r.mkE La) := ⟨fun _ _ q => q, fun a u e z => ⟨e, fun q => z q.1⟩, fun _ _ q => q⟩
  refine ⟨⟨⟨m.ext.mu, fun a u e z => ⟨(m.ext.frz a u e z).1, fun q => (m.ext.frz a u e z).2 q.1⟩, m.ext.nu⟩, fun a u e z n => ?_⟩, ⟨m.rl.len, m.rl.nd, fun a q => ⟨m.rl.inZ a q, fun h => m.nm (by rw [← h]; exact q)⟩, fun a z => m.rl.zH a z.1, fun n xs e => ?_⟩, .lst (.inl m.at_) (fun q => q.2 rfl) (m.rep.grow gr)⟩
  · obtain ⟨b1, b2, b3⟩ := m.ext.bld a u e z n
    exact ⟨b1, ⟨b2, ne_of_none e m.new⟩, b3⟩
  · obtain ⟨a, ws, h1, h2, h3⟩ := m.rl.obj n xs e
    exact ⟨a, ws, h1, h2, h3.grow gr⟩
end
section
variable {X : Cx} {G : Glob} {W : WX}
abbrev W0 : WX := fun _ _ _ _ => False
/-- the reading of a comprehension -/
theorem lc_ok {fi : Env → Store → Out (List D)} {fc : Env → Store → Out Bool} {fe : Env → Store → Out D} {tg : Tg} {own : List Nat} (ho : ∀ i ∈ tgSlots tg, i ∈ own) {σV : L2.St} {H : Hp} {Q : VK}
    (h : tD G W (fun σ S => (fi σ S).bind fun ds S => compGo tg fc fe (wipeD σ own) ds [] S) σV H Q) : tLc (tI G W fi) (gD G (tgSlots tg) (asg tg)) (tT G W0 fc) (tD G W0 fe) own σV H Q := by
  refine tX.step (rel := ItOk G) h fun J σ ds S r l s hJ p => ?_
  intro La hD
  have sw : RSt G r (wipeD σ own) (wipe σV own) := s.wipe own
  refine ⟨fun i m H => m = ds.length - i ∧ i ≤ ds.length ∧ ∃ r' S' acc vs, r'.H = H ∧ Mk G r r' S' La acc vs ∧ Post G (Rep G) W σV r (compGo tg fc fe (wipeD σ own) (ds.drop i) acc.reverse S') Q, ⟨ds.length, by simp, Nat.zero_le _, r.mk1 La [], S, [], [], rfl, Mk.start l hD, p⟩, ?_⟩
  rintro i m H ⟨rfl, hi, r', S', acc, vs, rfl, mk, p⟩
  obtain ⟨st, go⟩ := hJ r' S' mk.ext.toGrow mk.rl
  by_cases hlt : i < ds.length
  · right
    have ed : ds[i]? = some ds[i] := List.getElem?_eq_getElem hlt
    obtain ⟨g1, g2⟩ := go i _ ed
    rw [List.drop_eq_getElem_cons hlt] at p
    unfold compGo at p
    refine ⟨g1, fun H' => (∃ r' S' acc vs, r'.H = H' ∧ Mk G r r' S' La acc vs ∧ Post G (Rep G) W σV r (compGo tg fc fe (wipeD σ own) (ds.drop (i + 1)) acc.reverse S') Q), fun H' q => ⟨ds.length - (i + 1), by omega, rfl, hlt, q⟩, fun x H' y => ?_⟩
    obtain ⟨r2, rfl, x2, l2, h2⟩ := g2 x H' y
    have mk2 := mk.step x2 l2
    split at p
    · exact False.elim p
    rename_i σ2 ea
    refine ⟨ds[i], wipeD σ own, S', r2, σ2, rfl, l2, (sw.ext (mk.ext)).ext x2, h2, ea, fun σV2 s2 df => ⟨?_, ?_⟩⟩
    · rw [df.wipe ho, wipe_wipe]
    refine ⟨σ2, S', r2, rfl, l2, s2, ?_⟩
    split at p
    · rename_i S3 et
      rw [et]
      intro b r3 x3 l3 hb
      cases hb
      simp only [if_true]
      refine ⟨σ2, S3, r3, rfl, l3, s2.ext x3, ?_⟩
      split at p
      · rename_i e S4 ee
        rw [ee]
        intro v r4 x4 l4 hv
        have mk4 := (mk2.step x3 l3).step x4 l4
        split at p
        · rename_i hz
          refine ⟨vs, mk4.at_, ?_, r4.mkW La (vs ++ [v]), S4, acc ++ [e], vs ++ [v], rfl, mk4.app hv, ?_⟩
          · have := isOk hz
            rw [List.length_reverse] at this
            rw [← mk.rep.length]; exact this
          · rw [List.reverse_append]; exact p
        · exact False.elim p
      · exact False.elim p
    · rename_i S3 et
      rw [et]
      intro b r3 x3 l3 hb
      cases hb
      simp only [Bool.false_eq_true, if_false]
      exact ⟨r3, S3, acc, vs, rfl, mk2.step x3 l3, p⟩
    · exact False.elim p
  · left
    have e : i = ds.length := by omega
    subst e
    refine ⟨st _ (Nat.le_refl _), ?_⟩
    rw [List.drop_length] at p
    unfold compGo at p
    rw [List.reverse_reverse] at p
    obtain ⟨e1, l1, q1⟩ := mk.end_
    exact p (.ref La) (r'.mkE La) e1 l1 q1
end
end DL
end
section
set_option Elab.async false
set_option autoImplicit false
set_option linter.all false
set_option maxRecDepth 100000
set_option maxHeartbeats 2000000
/-! DLk: which expression says what a term says. -/
namespace DL
open PySem PySem.Spec PyProof.Rows L2

def tailE (op : BoolOp) (y : Expr) (rest : List Expr) (pos : Pos) : Expr := match rest with
  | [] => y
  | _ :: _ => .BoolOp op (y :: rest) pos
def locB (Γ : Cenv) (x : Str) : Bool := match Γ.sc.names.lookup x with
  | some .local => true
  | some .cell => (match Γ.so.names.lookup x with | some .cell => true | _ => false)
  | _ => false
def notSet : Expr → Bool
  | .Set _ _ _ => false
  | _ => true
def plainB : Expr → Bool
  | .Slice _ _ _ _ => false
  | _ => true
/-- tests that look at the whole value -/
def wholeB : Expr → Bool
  | .UnaryOp .Not _ _ => false
  | .BoolOp _ _ _ => false
  | .IfExp _ _ _ _ => false
  | .Compare _ _ _ _ => false
  | _ => true
/-- what a for-loop reads itself -/
def notSetI : Expr → Bool
  | .Set _ _ _ => false
  | _ => true
def strEq (x : Str) (y : List Nat) : Bool := decide (x = txt y)
def chkCon : D → Expr → Bool
  | .non, .Constant .none _ _ => true
  | .bl b, .Constant (.bool c) _ _ => b == c
  | .int i, .Constant (.int j) _ _ => decide (i = j)
  | .str x, .Constant (.str y) _ _ => strEq y x
  | _, _ => false
def opB (o : Op) (p : Operator) : Bool := match o, p with
  | .add, .Add => true
  | .sub, .Sub => true
  | .mul, .Mult => true
  | .fdiv, .FloorDiv => true
  | .mod, .Mod => true
  | .pow, .Pow => true
  | _, _ => false
def cpB (o : Cp) (p : CmpOp) : Bool := match o, p with
  | .eq, .Eq => true
  | .ne, .NotEq => true
  | .lt, .Lt => true
  | .le, .LtE => true
  | .gt, .Gt => true
  | .ge, .GtE => true
  | .is, .Is => true
  | .isn, .IsNot => true
  | .inn, .In => true
  | .nin, .NotIn => true
  | _, _ => false
def biB (b : Bi) (x : Str) : Bool := match b with
  | .abs => decide (x = "abs")
  | .all => decide (x = "all")
  | .any => decide (x = "any")
  | .divmod => decide (x = "divmod")
  | .int => decide (x = "int")
  | .bool => decide (x = "bool")
  | .str => decide (x = "str")
  | .len => decide (x = "len")
  | .list => decide (x = "list")
  | .tuple => decide (x = "tuple")
  | .max => decide (x = "max")
  | .min => decide (x = "min")
  | .minl => decide (x = "min")
  | .isi _ => false
  | .repr => false
def tysB (Γ : Cenv) (ts : List Ty) : Expr → Bool
  | .Name x _ => (match ts with | [t] => decide (x = tyS t) && decide (t ≠ .non) && glB Γ.sc (tyS t) | _ => false)
  | .Tuple es _ _ => tyNames ts es && Nat.ble ts.length 100 && ts.all (fun t => glB Γ.sc (tyS t))
  | _ => false
def ownP (Γ : Cenv) (own : List Nat) : List (Str × Nat) := own.filterMap fun i => (Γ.N[i]?).map fun x => (x, i)
def Cenv.blk (Γ : Cenv) (scope : Scope) : Cenv := { Γ with sc := relS scope Γ.sc, so := scope }
def isTup : Expr → Bool
  | .Tuple _ _ _ => true
  | _ => false
def ownOk (Γ : Cenv) (scope : Scope) (tg : Tg) (own : List Nat) : Bool := decide ((ownP Γ own).map (·.2) = own) && blkC Γ.N Γ.sc scope (ownP Γ own) && (tgSlots tg).all (fun i => decide (i ∈ own))
def notCall : Expr → Bool
  | .Call _ _ _ _ => false
  | _ => true
theorem base_of {o : Expr} {name : Str} {env : PySem.Env} (h : notCall o = true) : attributeBase o name env (eval o env) = eval o env := by
  cases o <;> first | rfl | cases h
mutual
def chkTg : Tg → Cenv → Expr → Bool
  | .nm i, Γ, e => (match e with | .Name x _ => decide (Γ.N[i]? = some x) && locB Γ x | _ => false)
  | .tp ts, Γ, e => (match e with | .Tuple es _ _ => chkTgs ts Γ es | _ => false)
  | .sub _ _, _, _ => false
def chkTgs : List Tg → Cenv → List Expr → Bool
  | [], _, es => (match es with | [] => true | _ => false)
  | t :: ts, Γ, es => (match es with | e :: es => noStar e && chkTg t Γ e && chkTgs ts Γ es | _ => false)
end
mutual
def chkE : E → Cenv → Expr → Bool
  | .slot i, Γ, e => (match e with | .Name x _ => decide (Γ.N[i]? = some x) && visB Γ.sc x && okN x | _ => false)
  | .star _, _, _ => false
  | .con d, _, e => chkCon d e
  | .gcon k, Γ, e => (match e with | .Name x _ => decide (Γ.cons[k]? = some x) && glB Γ.sc x && okN x | _ => false)
  | .tup es, Γ, e => (match e with | .Tuple xs _ _ => chkEs es Γ xs | _ => false)
  | .lst es, Γ, e => (match e with | .List xs _ => chkEs es Γ xs | _ => false)
  | .new es, Γ, e => (match e with | .List xs _ => chkEs es Γ xs | _ => false)
  | .dict0, _, e => (match e with | .Dict [] [] _ => true | _ => false)
  | .join o a, Γ, e => (match e with | .Call (.Attribute x n apos) [y] [] cpos => decide (n = "join") && (apos.endLine == cpos.line) && noStar y && notCall x && chkE o Γ x && chkE a Γ y | _ => false)
  | .bin o a b, Γ, e => (match e with | .BinOp x p y _ => opB o p && chkE a Γ x && chkE b Γ y | _ => false)
  | .neg a, Γ, e => (match e with | .UnaryOp .USub x _ => chkE a Γ x | _ => false)
  | .cmp o a b, Γ, e => (match e with | .Compare x [p] [y] _ => cpB o p && chkE a Γ x && chkE b Γ y && notSet y | _ => false)
  | .chain o o' a b c, Γ, e => (match e with | .Compare x [p, q] [y, z] _ => cpB o p && cpB o' q && chkE a Γ x && chkE b Γ y && chkE c Γ z && notSet z | _ => false)
  | .notE a, Γ, e => (match e with | .UnaryOp .Not x _ => chkE a Γ x | _ => false)
  | .ite t a b, Γ, e => (match e with | .IfExp c x y _ => chkT t Γ c && chkE a Γ x && chkE b Γ y | _ => false)
  | .and a b, Γ, e => (match e with | .BoolOp .And (x :: y :: rest) pos => chkE a Γ x && chkE b Γ (tailE .And y rest pos) | _ => false)
  | .or a b, Γ, e => (match e with | .BoolOp .Or (x :: y :: rest) pos => chkE a Γ x && chkE b Γ (tailE .Or y rest pos) | _ => false)
  | .idx a i, Γ, e => (match e with | .Subscript x y _ => plainB y && chkE a Γ x && chkE i Γ y | _ => false)
  | .slc a lo hi, Γ, e => (match e with | .Subscript x (.Slice l h none _) _ => chkE a Γ x && chkO lo Γ l && chkO hi Γ h | _ => false)
  | .rev a, Γ, e => (match e with | .Subscript x (.Slice none none (some (.UnaryOp .USub (.Constant (.int i) _ _) _)) _) _ => decide (i = 1) && chkE a Γ x | _ => false)
  | .call g es, Γ, e => (match e with
    | .Call (.Name x _) [] [] _ => es.isEmpty && decide (Γ.fns[g]? = some x) && glB Γ.sc x && okN x
    | .Call (.Name x _) (y :: ys) [] _ => decide (Γ.fns[g]? = some x) && glB Γ.sc x && okN x && (y :: ys).all noStar && chkEs es Γ (y :: ys) | _ => false)
  | .bi b es, Γ, e => (match e with | .Call (.Name x _) (y :: ys) [] _ => (match b with
      | .isi ts => (match ys, es with | [c], [a] => decide (x = "isinstance") && glB Γ.sc "isinstance" && noStar y && tysB Γ ts c && chkE a Γ y | _, _ => false)
      | _ => biB b x && glB Γ.sc x && (y :: ys).all noStar && chkEs es Γ (y :: ys)) | _ => false)
  | .mth m o es, Γ, e => (match m, es, e with
    | .split, [a], .Call (.Attribute x n apos) [y] [] cpos => decide (n = "split") && (apos.endLine == cpos.line) && noStar y && notCall x && chkE o Γ x && chkE a Γ y
    | _, _, _ => false)
  | .comp tg it c el own, Γ, e => (match e with | .ListComp elt [⟨te, ie, ifs, 0⟩] scope _ => ownOk Γ scope tg own && chkTg tg (Γ.blk scope) te && chkI it Γ te ie && chkC c (Γ.blk scope) ifs && chkE el (Γ.blk scope) elt && notSetI ie | _ => false)
def chkC : Option T → Cenv → List Expr → Bool
  | none, _, ifs => (match ifs with | [] => true | _ => false)
  | some t, Γ, ifs => (match ifs with | [c] => chkT t Γ c | _ => false)
def chkO : Option E → Cenv → Option Expr → Bool
  | none, _, o => (match o with | none => true | _ => false)
  | some a, Γ, o => (match o with | some x => chkE a Γ x | none => false)
def chkEs : List E → Cenv → List Expr → Bool
  | [], _, xs => (match xs with | [] => true | _ => false)
  | .star e :: es, Γ, xs => (match xs with | .Starred x _ :: xs => chkE e Γ x && chkEs es Γ xs | _ => false)
  | e :: es, Γ, xs => (match xs with | x :: xs => noStar x && chkE e Γ x && chkEs es Γ xs | _ => false)
def chkT : T → Cenv → Expr → Bool
  | .not t, Γ, e => (match e with | .UnaryOp .Not x _ => chkT t Γ x | _ => false)
  | .and t u, Γ, e => (match e with | .BoolOp .And (x :: y :: rest) pos => chkT t Γ x && chkT u Γ (tailE .And y rest pos) | _ => false)
  | .or t u, Γ, e => (match e with | .BoolOp .Or (x :: y :: rest) pos => chkT t Γ x && chkT u Γ (tailE .Or y rest pos) | _ => false)
  | .cmp o a b, Γ, e => (match e with | .Compare x [p] [y] _ => cpB o p && chkE a Γ x && chkE b Γ y && notSet y | _ => false)
  | .chain o o' a b c, Γ, e => (match e with | .Compare x [p, q] [y, z] _ => cpB o p && cpB o' q && chkE a Γ x && chkE b Γ y && chkE c Γ z && notSet z | _ => false)
  | .val a, Γ, e => wholeB e && chkE a Γ e
def chkI : I → Cenv → Expr → Expr → Bool
  | .seq a, Γ, _, e => chkE a Γ e
  | .rng1 a, Γ, _, e => (match e with | .Call (.Name x _) [p] [] _ => decide (x = "range") && glB Γ.sc "range" && noStar p && chkE a Γ p | _ => false)
  | .rng2 a b, Γ, _, e => (match e with | .Call (.Name x _) [p, q] [] _ => decide (x = "range") && glB Γ.sc "range" && noStar p && noStar q && chkE a Γ p && chkE b Γ q | _ => false)
  | .rng3 a b c, Γ, _, e => (match e with | .Call (.Name x _) [p, q, s] [] _ => decide (x = "range") && glB Γ.sc "range" && noStar p && noStar q && noStar s && chkE a Γ p && chkE b Γ q && chkE c Γ s | _ => false)
  | .zip a b, Γ, tg, e => isTup tg && (match e with | .Call (.Name x _) [p, q] [] _ => decide (x = "zip") && glB Γ.sc "zip" && noStar p && noStar q && chkE a Γ p && chkE b Γ q | _ => false)
  | .enum a, Γ, tg, e => isTup tg && (match e with | .Call (.Name x _) [p] [] _ => decide (x = "enumerate") && glB Γ.sc "enumerate" && noStar p && chkE a Γ p | _ => false)
end

section
variable {X : Cx} {G : Glob} {W : WX} {cl : Cl} {gc : List D} {Γ : Cenv}
theorem PE.cast {e : Expr} {f g : Env → Store → Out D} (h : PE X e (tD G W f)) (q : ∀ σ S, g σ S = f σ S) : PE X e (tD G W g) := by
  have : g = f := funext fun σ => funext (q σ)
  rw [this]; exact h
theorem PT.cast {e : Expr} {f g : Env → Store → Out Bool} (h : PT X e (tT G W f)) (q : ∀ σ S, g σ S = f σ S) : PT X e (tT G W g) := by
  have : g = f := funext fun σ => funext (q σ)
  rw [this]; exact h
theorem PI.cast {tg e : Expr} {f g : Env → Store → Out (List D)} (h : PI X tg e (tI G W f)) (q : ∀ σ S, g σ S = f σ S) : PI X tg e (tI G W g) := by
  have : g = f := funext fun σ => funext (q σ)
  rw [this]; exact h
theorem PA.cast {es : List Expr} {f g : Env → Store → Out (List D)} (h : PA X es (tDs G W f)) (q : ∀ σ S, g σ S = f σ S) : PA X es (tDs G W g) := by
  have : g = f := funext fun σ => funext (q σ)
  rw [this]; exact h
theorem opB_eq {o : Op} {p : Operator} (h : opB o p = true) : p = opA o := by
  cases o <;> cases p <;> first | rfl | cases h
theorem cpB_eq {o : Cp} {p : CmpOp} (h : cpB o p = true) : p = cpA o := by
  cases o <;> cases p <;> first | rfl | cases h
theorem marks_of {o : CmpOp} {e : Expr} (h : notSet e = true) : behindInMarks o e = false := by
  cases e <;> first | rfl | cases h
theorem lastMarks_of {o p : CmpOp} {b e : Expr} (h : notSet e = true) : lastMarks [o, p] [b, e] = false := by
  show behindInMarks p e = false
  exact marks_of h
theorem plain_of {e : Expr} (h : plainB e = true) : PlainIx e := by
  cases e <;> first | exact fun _ _ => rfl | cases h
theorem whole_of {e : Expr} (h : wholeB e = true) (env : PySem.Env) : ∀ whole, isTrue e env whole = (do let v ← whole; standAt e.pos; holding [v] (truthy v)) := by
  cases e with
  | UnaryOp op _ _ => cases op <;> first | exact fun _ => rfl | cases h
  | BoolOp _ _ _ => cases h
  | IfExp _ _ _ _ => cases h
  | Compare _ _ _ _ => cases h
  | _ => exact fun _ => rfl
theorem setI_of {e : Expr} (h : notSetI e = true) (env : PySem.Env) : ∀ x, foldedSetIterable e env x = pure x := by
  cases e <;> first | exact fun _ => rfl | cases h
theorem XOk.gl (h : XOk G Γ X W cl gc) {x : Str} (q : glB Γ.sc x = true) : Gl X x := gl_of (by rw [h.sc]; exact q)
theorem XOk.blk (h : XOk G Γ X W cl gc) (scope : Scope) (s : Shared) (H : Hp) (C : Addr) (cs : List (Str × Addr)) (fp : List Addr) : XOk G (Γ.blk scope) (X.blk s H scope (compEnvC scope cs C X.env) fp) W0 cl gc where
  hK := h.hK
  hN := h.hN
  nd := h.nd
  sc := by show relS scope X.env.scope = relS scope Γ.sc; rw [h.sc]
  fn := fun x e => by show (scope.names.lookup x == some NameKind.cell) = true; have e : scope.names.lookup x = some .cell := e; rw [e]; rfl
  calm := h.calm
  un := h.un
  dig := h.dig
  tk := L2.takes0
  fns := h.fns
  cons := h.cons
  blt := h.blt
theorem chkCon_ok {d : D} {e : Expr} (h : chkCon d e = true) : PE X e (tD G W (fun _ S => .ok d S)) := by
  unfold chkCon at h
  split at h
  · exact n_con pe_non fun _ => .non
  · have := eq_of_beq h; subst this; exact n_con pe_bl fun _ => .bl _
  · have := of_decide_eq_true h; subst this; exact n_con pe_int fun _ => .int _
  · have := of_decide_eq_true h; subst this; exact n_con pe_str fun _ => .str _
  · cases h
mutual
theorem okTg (h : XOk G Γ X W cl gc) : ∀ (t : Tg) (e : Expr), chkTg t Γ e = true → PG X e (gD G (tgSlots t) (asg t))
  | .nm i, e, q => by
    unfold chkTg at q
    split at q
    · rename_i x pos
      rw [Bool.and_eq_true] at q
      have hi := of_decide_eq_true q.1
      have q2 := q.2
      have hl : Loc X.env.scope x ∧ (X.fn x = true ∨ X.env.scope.names.lookup x = some .local) := by
        rw [h.sc]
        unfold locB at q2
        split at q2
        · rename_i e1
          exact ⟨.inl e1, .inr e1⟩
        · rename_i e1
          split at q2
          · rename_i e2
            exact ⟨.inr e1, .inl (h.fn _ e2)⟩
          · cases q2
        · cases q2
      exact gd_name (by rw [h.hN]; exact h.nd) (by rw [h.hN]; exact hi) hl.1 hl.2
    · cases q
  | .tp ts, e, q => by
    unfold chkTg at q
    split at q
    · obtain ⟨h1, h2, h3, h4⟩ := okTgs h ts _ q
      exact gd_tup h.hK h.calm h1 h2 h3 h4
    · cases q
  | .sub _ _, e, q => by unfold chkTg at q; cases q
theorem okTgs (h : XOk G Γ X W cl gc) : ∀ (ts : List Tg) (es : List Expr), chkTgs ts Γ es = true → PGs X es (gDs G (tgsSlots ts) (asgs ts)) ∧ ts.length = es.length ∧ (assignEach es X.env).length = es.length ∧ (assignEach es X.env).findIdx? (·.1) = none
  | [], es, q => by
    unfold chkTgs at q
    split at q
    · exact ⟨gd_nil, rfl, rfl, rfl⟩
    · cases q
  | t :: ts, es, q => by
    unfold chkTgs at q
    split at q
    · rename_i e es
      simp only [Bool.and_eq_true] at q
      obtain ⟨h1, h2, h3, h4⟩ := okTgs h ts es q.2
      have e1 : assignEach (e :: es) X.env = (false, assign e X.env) :: assignEach es X.env := by
        have z := q.1.1
        cases e <;> first | rfl | cases z
      refine ⟨gd_cons (okTg h t e q.1.2) h1 (by rw [e1]; rfl), by simp [h2], by rw [e1]; simp [h3], by rw [e1, List.findIdx?_cons]; simp [h4]⟩
    · cases q
end
theorem bltM {x : Str} (h : XOk G Γ X W cl gc) (q : x ∈ bltNames) : X.mg x = none := h.blt x q
theorem own_nd {own : List Nat} {scope : Scope} {tg : Tg} (h : XOk G Γ X W cl gc) (q : ownOk Γ scope tg own = true) : BlkOk X.N X.env.scope scope (ownP Γ own) ∧ (ownP Γ own).map (·.2) = own ∧ ∀ i ∈ tgSlots tg, i ∈ own := by
  unfold ownOk at q
  simp only [Bool.and_eq_true, decide_eq_true_eq, List.all_eq_true] at q
  exact ⟨by rw [h.hN, h.sc]; exact blkOk_by q.1.2, q.1.1, q.2⟩
theorem tail_pe {op : BoolOp} {y : Expr} {rest : List Expr} {pos : Pos} {t : TE} (h : PE X (tailE op y rest pos) t) : PE X (.BoolOp op (y :: rest) pos) t := by
  cases rest with
  | nil => exact pe_one h
  | cons a b => exact h
theorem tail_and {y : Expr} {rest : List Expr} {pos : Pos} {t : TT} (h : PT X (tailE .And y rest pos) t) : PW X (.BoolOp .And (y :: rest) pos) t := by
  cases rest with
  | nil => exact pw_and1 h
  | cons a b => exact pw_bool h
theorem tail_or {y : Expr} {rest : List Expr} {pos : Pos} {t : TT} (h : PT X (tailE .Or y rest pos) t) : PW X (.BoolOp .Or (y :: rest) pos) t := by
  cases rest with
  | nil => exact pw_or1 h
  | cons a b => exact pw_bool h
theorem bi_ok (h : XOk G Γ X W cl gc) {b : Bi} {x : Str} (q : biB b x = true) (hg : Gl X x) {es : List Expr} {fs : Env → Store → Out (List D)} {p pos : Pos} (hs : PA X es (tDs G W fs)) (hn : es.all noStar = true) (hne : es ≠ []) :
    PE X (.Call (.Name x p) es [] pos) (tD G W (fun σ S => (fs σ S).bind fun ds S => bi b ds S)) := by
  have mem : ∀ {y : Str}, y ∈ bltNames → X.mg y = none := fun hy => h.blt _ hy
  cases b with
  | abs => have := of_decide_eq_true q; subst this; exact n_biB bs_abs hg (mem (by simp [bltNames])) rfl (by decide) (by decide) hs hn hne
  | all => have := of_decide_eq_true q; subst this; exact n_biB (bs_all h.hK h.calm) hg (mem (by simp [bltNames])) rfl (by decide) (by decide) hs hn hne
  | any => have := of_decide_eq_true q; subst this; exact n_biB (bs_any h.hK h.calm) hg (mem (by simp [bltNames])) rfl (by decide) (by decide) hs hn hne
  | divmod => have := of_decide_eq_true q; subst this; exact n_biB bs_divmod hg (mem (by simp [bltNames])) rfl (by decide) (by decide) hs hn hne
  | int => have := of_decide_eq_true q; subst this; exact n_biT (bs_int h.dig) hg (mem (by simp [bltNames])) rfl (by decide) (by decide) hs hn hne
  | bool => have := of_decide_eq_true q; subst this; exact n_biT bs_bool hg (mem (by simp [bltNames])) rfl (by decide) (by decide) hs hn hne
  | str => have := of_decide_eq_true q; subst this; exact n_biT bs_str hg (mem (by simp [bltNames])) rfl (by decide) (by decide) hs hn hne
  | len => have := of_decide_eq_true q; subst this; exact n_biB (bs_len h.hK) hg (mem (by simp [bltNames])) rfl (by decide) (by decide) hs hn hne
  | list => have := of_decide_eq_true q; subst this; exact n_biT (bs_list h.hK) hg (mem (by simp [bltNames])) rfl (by decide) (by decide) hs hn hne
  | tuple => have := of_decide_eq_true q; subst this; exact n_biT (bs_tuple h.hK) hg (mem (by simp [bltNames])) rfl (by decide) (by decide) hs hn hne
  | max => have := of_decide_eq_true q; subst this; exact n_biB (bs_max h.calm) hg (mem (by simp [bltNames])) rfl (by decide) (by decide) hs hn hne
  | min => have := of_decide_eq_true q; subst this; exact n_biB (bs_min h.calm) hg (mem (by simp [bltNames])) rfl (by decide) (by decide) hs hn hne
  | minl => have := of_decide_eq_true q; subst this; exact n_biB (bs_minl h.hK h.calm) hg (mem (by simp [bltNames])) rfl (by decide) (by decide) hs hn hne
  | isi ts => cases q
  | repr => cases q
theorem isi_ok (h : XOk G Γ X W cl gc) {ts : List Ty} {y c : Expr} {fa : Env → Store → Out D} {p pos : Pos} (hg : glB Γ.sc "isinstance" = true) (hn : noStar y = true) (q : tysB Γ ts c = true) (ha : PE X y (tD G W fa)) :
    PE X (.Call (.Name "isinstance" p) [y, c] [] pos) (tD G W (fun σ S => (fa σ S).bind fun x S => isD ts x S)) := by
  have hm : X.mg "isinstance" = none := h.blt _ (by simp [bltNames])
  unfold tysB at q
  split at q
  · split at q
    · simp only [Bool.and_eq_true, decide_eq_true_eq] at q
      obtain ⟨⟨rfl, q2⟩, q3⟩ := q
      exact n_isi1 h.hK q2 (h.gl hg) hm (h.gl q3) (h.blt _ (blt_ty q2)) ha hn
    · cases q
  · simp only [Bool.and_eq_true, List.all_eq_true] at q
    exact n_isiT h.hK q.1.1 (isOk q.1.2) (h.gl hg) hm (fun t ht => ⟨h.gl (q.2 t ht), h.blt _ (blt_ty (tys_non q.1.1 t ht))⟩) ha hn
  · cases q
end
end DL
end
section
set_option Elab.async false
set_option autoImplicit false
set_option linter.all false
set_option maxRecDepth 100000
set_option maxHeartbeats 2000000
/-! DLl: a checked expression does what its term tells. -/
namespace DL
open PySem PySem.Spec PyProof.Rows L2
section
variable {G : Glob} {cl : Cl} {gc : List D}
theorem okEsC {e : E} {es : List E} {Γ : Cenv} {X : Cx} {W : WX} (h : XOk G Γ X W cl gc) {xs : List Expr} (ns : ∀ z, e = .star z → False) (h1 : ∀ x, chkE e Γ x = true → PE X x (tD G W (evE cl gc e))) (h2 : ∀ xs, chkEs es Γ xs = true → PA X xs (tDs G W (evEs cl gc es)))
    (q : chkEs (e :: es) Γ xs = true) : PA X xs (tDs G W (evEs cl gc (e :: es))) := by
  cases xs with
  | nil =>
    exfalso
    cases e <;> first | exact ns _ rfl | (unfold chkEs at q; cases q)
  | cons x xs =>
    have q2 : (noStar x && chkE e Γ x && chkEs es Γ xs) = true := by
      cases e <;> first | exact absurd rfl (ns _) | (unfold chkEs at q; exact q)
    simp only [Bool.and_eq_true] at q2
    refine PA.cast (n_cons (h1 _ q2.1.2) (h2 _ q2.2) q2.1.1) fun σ S => ?_
    rw [evEs]
    exact ns
mutual
theorem okE : ∀ (e : E) {Γ : Cenv} {X : Cx} {W : WX} (h : XOk G Γ X W cl gc) (x : Expr), chkE e Γ x = true → PE X x (tD G W (evE cl gc e))
  | .slot i, Γ, X, W, h, x, q => by
    unfold chkE at q
    split at q
    · simp only [Bool.and_eq_true, decide_eq_true_eq] at q
      exact n_slot (by rw [h.hN]; exact q.1.1) (by rw [h.sc]; exact vis_of q.1.2) q.2 cl gc
    · cases q
  | .star _, Γ, X, W, h, x, q => by unfold chkE at q; cases q
  | .con d, Γ, X, W, h, x, q => by
    unfold chkE at q
    exact PE.cast (chkCon_ok q) fun σ S => by rw [evE] <;> rfl
  | .gcon k, Γ, X, W, h, x, q => by
    unfold chkE at q
    split at q
    · rename_i y pos
      simp only [Bool.and_eq_true, decide_eq_true_eq] at q
      cases e : gc[k]? with
      | none =>
        refine ⟨fun pins s σ H Q I ⟨σ1, S, r, e1, l, s1, p⟩ => ?_⟩
        rw [evE, e] at p
        exact False.elim p
      | some d =>
        obtain ⟨u, v, h1, h2, h3⟩ := h.cons k _ d q.1.1 e
        exact PE.cast (n_con (pe_glob (h.gl q.1.2) h1 h2 (okN_d q.2)) h3) fun σ S => by rw [evE, e]
    · cases q
  | .tup es, Γ, X, W, h, x, q => by
    unfold chkE at q
    split at q
    · exact PE.cast (n_tup (okEs es h _ q)) fun σ S => by rw [evE] <;> rfl
    · cases q
  | .lst es, Γ, X, W, h, x, q => by
    unfold chkE at q
    split at q
    · exact PE.cast (n_lst (okEs es h _ q)) fun σ S => by rw [evE] <;> rfl
    · cases q
  | .new es, Γ, X, W, h, x, q => by
    unfold chkE at q
    split at q
    · exact PE.cast (n_new (okEs es h _ q)) fun σ S => by rw [evE] <;> rfl
    · cases q
  | .dict0, Γ, X, W, h, x, q => by
    unfold chkE at q
    split at q
    · exact PE.cast n_dict0 fun σ S => by rw [evE]
    · cases q
  | .join o a, Γ, X, W, h, x, q => by
    unfold chkE at q
    split at q
    · simp only [Bool.and_eq_true, decide_eq_true_eq] at q
      obtain ⟨⟨⟨⟨⟨rfl, q1⟩, q2⟩, q3⟩, q4⟩, q5⟩ := q
      exact PE.cast (n_join h.hK (okE o h _ q4) (okE a h _ q5) q2 (base_of q3) q1) fun σ S => by rw [evE] <;> rfl
    · cases q
  | .bin o a b, Γ, X, W, h, x, q => by
    unfold chkE at q
    split at q
    · simp only [Bool.and_eq_true] at q
      have := opB_eq q.1.1
      subst this
      exact PE.cast (n_bin h.hK (okE a h _ q.1.2) (okE b h _ q.2)) fun σ S => by rw [evE] <;> rfl
    · cases q
  | .neg a, Γ, X, W, h, x, q => by
    unfold chkE at q
    split at q
    · exact PE.cast (n_neg (okE a h _ q)) fun σ S => by rw [evE] <;> rfl
    · cases q
  | .cmp o a b, Γ, X, W, h, x, q => by
    unfold chkE at q
    split at q
    · simp only [Bool.and_eq_true] at q
      have := cpB_eq q.1.1.1
      subst this
      exact PE.cast (n_cmp h.hK h.un (okE a h _ q.1.1.2) (okE b h _ q.1.2) (marks_of q.2)) fun σ S => by rw [evE] <;> rfl
    · cases q
  | .chain o o' a b c, Γ, X, W, h, x, q => by
    unfold chkE at q
    split at q
    · simp only [Bool.and_eq_true] at q
      have := cpB_eq q.1.1.1.1.1
      subst this
      have := cpB_eq q.1.1.1.1.2
      subst this
      exact PE.cast (n_chain h.hK h.un (okE a h _ q.1.1.1.2) (okE b h _ q.1.1.2) (okE c h _ q.1.2) (lastMarks_of q.2)) fun σ S => by rw [evE] <;> rfl
    · cases q
  | .notE a, Γ, X, W, h, x, q => by
    unfold chkE at q
    split at q
    · exact PE.cast (n_notE h.hK (okE a h _ q)) fun σ S => by rw [evE] <;> rfl
    · cases q
  | .ite t a b, Γ, X, W, h, x, q => by
    unfold chkE at q
    split at q
    · simp only [Bool.and_eq_true] at q
      exact PE.cast (n_ite (okT t h _ q.1.1) (okE a h _ q.1.2) (okE b h _ q.2)) fun σ S => by rw [evE] <;> rfl
    · cases q
  | .and a b, Γ, X, W, h, x, q => by
    unfold chkE at q
    split at q
    · simp only [Bool.and_eq_true] at q
      exact PE.cast (n_and h.hK (okE a h _ q.1) (tail_pe (okE b h _ q.2))) fun σ S => by rw [evE] <;> rfl
    · cases q
  | .or a b, Γ, X, W, h, x, q => by
    unfold chkE at q
    split at q
    · simp only [Bool.and_eq_true] at q
      exact PE.cast (n_or h.hK (okE a h _ q.1) (tail_pe (okE b h _ q.2))) fun σ S => by rw [evE] <;> rfl
    · cases q
  | .idx a i, Γ, X, W, h, x, q => by
    unfold chkE at q
    split at q
    · simp only [Bool.and_eq_true] at q
      exact PE.cast (n_idx h.hK (okE a h _ q.1.2) (okE i h _ q.2) (plain_of q.1.1)) fun σ S => by rw [evE] <;> rfl
    · cases q
  | .slc a lo hi, Γ, X, W, h, x, q => by
    unfold chkE at q
    split at q
    · simp only [Bool.and_eq_true] at q
      exact PE.cast (n_slc h.hK (okE a h _ q.1.1) (okO lo h _ q.1.2) (okO hi h _ q.2)) fun σ S => by rw [evE] <;> rfl
    · cases q
  | .rev a, Γ, X, W, h, x, q => by
    unfold chkE at q
    split at q
    · simp only [Bool.and_eq_true, decide_eq_true_eq] at q
      obtain ⟨rfl, q⟩ := q
      exact PE.cast (n_rev h.hK (okE a h _ q)) fun σ S => by rw [evE] <;> rfl
    · cases q
  | .call g es, Γ, X, W, h, x, q => by
    unfold chkE at q
    split at q
    · simp only [Bool.and_eq_true, decide_eq_true_eq, List.isEmpty_iff] at q
      obtain ⟨⟨⟨rfl, q1⟩, q2⟩, q3⟩ := q
      obtain ⟨h1, h2, n, fd, ps, h3, h4, h5⟩ := h.fns g _ q1
      exact PE.cast (n_call0 h1 h2 h3 h4 h5 h.tk (h.gl q2) q3) fun σ S => by rw [evE, evEs]; rfl
    · simp only [Bool.and_eq_true, decide_eq_true_eq] at q
      obtain ⟨h1, h2, n, fd, ps, h3, h4, h5⟩ := h.fns g _ q.1.1.1.1
      exact PE.cast (n_call h1 h2 h3 h4 h5 h.tk (h.gl q.1.1.1.2) q.1.1.2 (okEs es h _ q.2) q.1.2 (by simp)) fun σ S => by rw [evE] <;> rfl
    · cases q
  | .bi b es, Γ, X, W, h, x, q => by
    unfold chkE at q
    split at q
    · split at q
      · split at q
        · simp only [Bool.and_eq_true, decide_eq_true_eq] at q
          obtain ⟨⟨⟨⟨rfl, q1⟩, q2⟩, q3⟩, q4⟩ := q
          rename_i a
          refine PE.cast (isi_ok h q1 q2 q3 (okE a h _ q4)) fun σ S => ?_
          have ns : ∀ z, a = .star z → False := fun z e => by
            subst e; unfold chkE at q4; cases q4
          rw [evE, evEs]
          · cases evE cl gc a σ S <;> simp only [Out.bind, evEs]
            rfl
          · exact ns
        · cases q
      · simp only [Bool.and_eq_true] at q
        exact PE.cast (bi_ok h q.1.1.1 (h.gl q.1.1.2) (okEs es h _ q.2) q.1.2 (by simp)) fun σ S => by rw [evE] <;> rfl
    · cases q
  | .mth m o es, Γ, X, W, h, x, q => by
    unfold chkE at q
    split at q
    · rename_i a x n apos y cpos
      simp only [Bool.and_eq_true, decide_eq_true_eq] at q
      obtain ⟨⟨⟨⟨⟨rfl, q1⟩, q2⟩, q3⟩, q4⟩, q5⟩ := q
      refine PE.cast (n_split h.hK (okE o h _ q4) (okE a h _ q5) q2 (base_of q3) q1) fun σ S => ?_
      have ns : ∀ z, a = .star z → False := fun z e => by
        subst e; unfold chkE at q5; cases q5
      rw [evE]
      cases evE cl gc o σ S <;> simp only [Out.bind]
      rename_i d S1
      cases d <;> simp only []
      rw [evEs]
      · cases evE cl gc a σ S1 <;> simp only [Out.bind, evEs]
      · exact ns
    · cases q
  | .comp tg it c el own, Γ, X, W, h, x, q => by
    unfold chkE at q
    split at q
    · simp only [Bool.and_eq_true] at q
      obtain ⟨⟨⟨⟨⟨q1, q2⟩, q3⟩, q4⟩, q5⟩, q6⟩ := q
      obtain ⟨b1, b2, b3⟩ := own_nd h q1
      refine PE.mono (pe_lc h.calm (by rw [h.hN]; exact h.nd) (okI it h _ _ q3) b1 (fun s H C cs fp => okTg (h.blk _ s H C cs fp) tg _ q2) (fun s H C cs fp => okC c (h.blk _ s H C cs fp) _ q4) (fun s H C cs fp => okE el (h.blk _ s H C cs fp) _ q5) (setI_of q6 _)) fun σV H Q hh => ?_
      rw [b2]
      refine lc_ok b3 ?_
      have : evE cl gc (.comp tg it c el own) = fun σ S => (evI cl gc it σ S).bind fun ds S => compGo tg (evC cl gc c) (evE cl gc el) (wipeD σ own) ds [] S := by
        funext σ S; rw [evE]
      rw [this] at hh
      exact hh
    · cases q
theorem okC : ∀ (c : Option T) {Γ : Cenv} {X : Cx} {W : WX} (h : XOk G Γ X W cl gc) (ifs : List Expr), chkC c Γ ifs = true → PTs X ifs (tT G W (evC cl gc c))
  | none, Γ, X, W, h, ifs, q => by
    unfold chkC at q
    split at q
    · refine ⟨fun pins s σ H Q I ⟨σ1, S, r, e, l, s1, p⟩ => pts_nil.run pins s σ H Q I ?_⟩
      subst e
      rw [evC] at p
      exact Post.here p l rfl
    · cases q
  | some t, Γ, X, W, h, ifs, q => by
    unfold chkC at q
    split at q
    · have z := PT.cast (g := evC cl gc (some t)) (okT t h _ q) fun σ S => by rw [evC] <;> rfl
      exact pts_one z
    · cases q
theorem okO : ∀ (o : Option E) {Γ : Cenv} {X : Cx} {W : WX} (h : XOk G Γ X W cl gc) (x : Option Expr), chkO o Γ x = true → PO X x (tO G W (evO cl gc o))
  | none, Γ, X, W, h, x, q => by
    unfold chkO at q
    split at q
    · have : evO cl gc none = fun _ S => .ok none S := by funext σ S; rw [evO]
      rw [this]; exact n_onone
    · cases q
  | some a, Γ, X, W, h, x, q => by
    unfold chkO at q
    split at q
    · have : evO cl gc (some a) = fun σ S => (evE cl gc a σ S).bind fun x S => match x with | .int i => .ok (some i) S | _ => .bad := by funext σ S; rw [evO] <;> rfl
      rw [this]; exact n_osome (okE a h _ q)
    · cases q
theorem okEs : ∀ (es : List E) {Γ : Cenv} {X : Cx} {W : WX} (h : XOk G Γ X W cl gc) (xs : List Expr), chkEs es Γ xs = true → PA X xs (tDs G W (evEs cl gc es))
  | [], Γ, X, W, h, xs, q => by
    unfold chkEs at q
    split at q
    · exact PA.cast n_nil fun σ S => by rw [evEs] <;> rfl
    · cases q
  | .star e :: es, Γ, X, W, h, xs, q => by
    unfold chkEs at q
    split at q
    · simp only [Bool.and_eq_true] at q
      exact PA.cast (n_star h.hK (okE e h _ q.1) (okEs es h _ q.2)) fun σ S => by rw [evEs] <;> rfl
    · cases q
  | .slot i :: es, Γ, X, W, h, xs, q => okEsC h (by intro z e; cases e) (fun x hx => okE (.slot i) h x hx) (fun xs hx => okEs es h xs hx) q
  | .con d :: es, Γ, X, W, h, xs, q => okEsC h (by intro z e; cases e) (fun x hx => okE (.con d) h x hx) (fun xs hx => okEs es h xs hx) q
  | .gcon k :: es, Γ, X, W, h, xs, q => okEsC h (by intro z e; cases e) (fun x hx => okE (.gcon k) h x hx) (fun xs hx => okEs es h xs hx) q
  | .tup ys :: es, Γ, X, W, h, xs, q => okEsC h (by intro z e; cases e) (fun x hx => okE (.tup ys) h x hx) (fun xs hx => okEs es h xs hx) q
  | .lst ys :: es, Γ, X, W, h, xs, q => okEsC h (by intro z e; cases e) (fun x hx => okE (.lst ys) h x hx) (fun xs hx => okEs es h xs hx) q
  | .new ys :: es, Γ, X, W, h, xs, q => okEsC h (by intro z e; cases e) (fun x hx => okE (.new ys) h x hx) (fun xs hx => okEs es h xs hx) q
  | .dict0 :: es, Γ, X, W, h, xs, q => okEsC h (by intro z e; cases e) (fun x hx => okE (.dict0) h x hx) (fun xs hx => okEs es h xs hx) q
  | .bin o a b :: es, Γ, X, W, h, xs, q => okEsC h (by intro z e; cases e) (fun x hx => okE (.bin o a b) h x hx) (fun xs hx => okEs es h xs hx) q
  | .neg a :: es, Γ, X, W, h, xs, q => okEsC h (by intro z e; cases e) (fun x hx => okE (.neg a) h x hx) (fun xs hx => okEs es h xs hx) q
  | .cmp o a b :: es, Γ, X, W, h, xs, q => okEsC h (by intro z e; cases e) (fun x hx => okE (.cmp o a b) h x hx) (fun xs hx => okEs es h xs hx) q
  | .chain o p a b c :: es, Γ, X, W, h, xs, q => okEsC h (by intro z e; cases e) (fun x hx => okE (.chain o p a b c) h x hx) (fun xs hx => okEs es h xs hx) q
  | .notE a :: es, Γ, X, W, h, xs, q => okEsC h (by intro z e; cases e) (fun x hx => okE (.notE a) h x hx) (fun xs hx => okEs es h xs hx) q
  | .ite t a b :: es, Γ, X, W, h, xs, q => okEsC h (by intro z e; cases e) (fun x hx => okE (.ite t a b) h x hx) (fun xs hx => okEs es h xs hx) q
  | .and a b :: es, Γ, X, W, h, xs, q => okEsC h (by intro z e; cases e) (fun x hx => okE (.and a b) h x hx) (fun xs hx => okEs es h xs hx) q
  | .or a b :: es, Γ, X, W, h, xs, q => okEsC h (by intro z e; cases e) (fun x hx => okE (.or a b) h x hx) (fun xs hx => okEs es h xs hx) q
  | .idx a i :: es, Γ, X, W, h, xs, q => okEsC h (by intro z e; cases e) (fun x hx => okE (.idx a i) h x hx) (fun xs hx => okEs es h xs hx) q
  | .slc a lo hi :: es, Γ, X, W, h, xs, q => okEsC h (by intro z e; cases e) (fun x hx => okE (.slc a lo hi) h x hx) (fun xs hx => okEs es h xs hx) q
  | .rev a :: es, Γ, X, W, h, xs, q => okEsC h (by intro z e; cases e) (fun x hx => okE (.rev a) h x hx) (fun xs hx => okEs es h xs hx) q
  | .call g ys :: es, Γ, X, W, h, xs, q => okEsC h (by intro z e; cases e) (fun x hx => okE (.call g ys) h x hx) (fun xs hx => okEs es h xs hx) q
  | .bi b ys :: es, Γ, X, W, h, xs, q => okEsC h (by intro z e; cases e) (fun x hx => okE (.bi b ys) h x hx) (fun xs hx => okEs es h xs hx) q
  | .mth m o ys :: es, Γ, X, W, h, xs, q => okEsC h (by intro z e; cases e) (fun x hx => okE (.mth m o ys) h x hx) (fun xs hx => okEs es h xs hx) q
  | .join o a :: es, Γ, X, W, h, xs, q => okEsC h (by intro z e; cases e) (fun x hx => okE (.join o a) h x hx) (fun xs hx => okEs es h xs hx) q
  | .comp tg it c el own :: es, Γ, X, W, h, xs, q => okEsC h (by intro z e; cases e) (fun x hx => okE (.comp tg it c el own) h x hx) (fun xs hx => okEs es h xs hx) q
theorem okT : ∀ (t : T) {Γ : Cenv} {X : Cx} {W : WX} (h : XOk G Γ X W cl gc) (x : Expr), chkT t Γ x = true → PT X x (tT G W (evT cl gc t))
  | .not t, Γ, X, W, h, x, q => by
    unfold chkT at q
    split at q
    · exact PT.cast (n_not (okT t h _ q)) fun σ S => by rw [evT] <;> rfl
    · cases q
  | .and t u, Γ, X, W, h, x, q => by
    unfold chkT at q
    split at q
    · simp only [Bool.and_eq_true] at q
      exact PT.cast (n_andT (okT t h _ q.1) (tail_and (okT u h _ q.2))).pt fun σ S => by rw [evT] <;> rfl
    · cases q
  | .or t u, Γ, X, W, h, x, q => by
    unfold chkT at q
    split at q
    · simp only [Bool.and_eq_true] at q
      exact PT.cast (n_orT (okT t h _ q.1) (tail_or (okT u h _ q.2))).pt fun σ S => by rw [evT] <;> rfl
    · cases q
  | .cmp o a b, Γ, X, W, h, x, q => by
    unfold chkT at q
    split at q
    · simp only [Bool.and_eq_true] at q
      have := cpB_eq q.1.1.1
      subst this
      exact PT.cast (n_cmpT h.hK h.un (okE a h _ q.1.1.2) (okE b h _ q.1.2) (marks_of q.2)) fun σ S => by rw [evT] <;> rfl
    · cases q
  | .chain o o' a b c, Γ, X, W, h, x, q => by
    unfold chkT at q
    split at q
    · simp only [Bool.and_eq_true] at q
      have := cpB_eq q.1.1.1.1.1
      subst this
      have := cpB_eq q.1.1.1.1.2
      subst this
      exact PT.cast (n_chainT h.hK h.un (okE a h _ q.1.1.1.2) (okE b h _ q.1.1.2) (okE c h _ q.1.2) (lastMarks_of q.2)) fun σ S => by rw [evT] <;> rfl
    · cases q
  | .val a, Γ, X, W, h, x, q => by
    unfold chkT at q
    rw [Bool.and_eq_true] at q
    exact PT.cast (n_val h.hK (okE a h _ q.2) (whole_of q.1 _)) fun σ S => by rw [evT] <;> rfl
theorem okI : ∀ (i : I) {Γ : Cenv} {X : Cx} {W : WX} (h : XOk G Γ X W cl gc) (tg x : Expr), chkI i Γ tg x = true → PI X tg x (tI G W (evI cl gc i))
  | .seq a, Γ, X, W, h, tg, x, q => by
    unfold chkI at q
    exact PI.cast (n_seq h.hK (okE a h _ q)) fun σ S => by rw [evI] <;> rfl
  | .rng1 a, Γ, X, W, h, tg, x, q => by
    unfold chkI at q
    split at q
    · simp only [Bool.and_eq_true, decide_eq_true_eq] at q
      obtain ⟨⟨⟨rfl, q2⟩, q3⟩, q4⟩ := q
      exact PI.cast (n_rng1 (h.gl q2) (h.blt _ (by simp [bltNames])) (okE a h _ q4) q3) fun σ S => by rw [evI] <;> rfl
    · cases q
  | .rng2 a b, Γ, X, W, h, tg, x, q => by
    unfold chkI at q
    split at q
    · simp only [Bool.and_eq_true, decide_eq_true_eq] at q
      obtain ⟨⟨⟨⟨⟨rfl, q2⟩, q3⟩, q3'⟩, q4⟩, q5⟩ := q
      exact PI.cast (n_rng2 (h.gl q2) (h.blt _ (by simp [bltNames])) (okE a h _ q4) (okE b h _ q5) q3 q3') fun σ S => by rw [evI] <;> rfl
    · cases q
  | .rng3 a b c, Γ, X, W, h, tg, x, q => by
    unfold chkI at q
    split at q
    · simp only [Bool.and_eq_true, decide_eq_true_eq] at q
      obtain ⟨⟨⟨⟨⟨⟨⟨rfl, q2⟩, q3⟩, q3'⟩, q3''⟩, q4⟩, q5⟩, q6⟩ := q
      exact PI.cast (n_rng3 (h.gl q2) (h.blt _ (by simp [bltNames])) (okE a h _ q4) (okE b h _ q5) (okE c h _ q6) q3 q3' q3'') fun σ S => by rw [evI] <;> rfl
    · cases q
  | .zip a b, Γ, X, W, h, tg, x, q => by
    unfold chkI at q
    rw [Bool.and_eq_true] at q
    obtain ⟨qt, q⟩ := q
    split at q
    · simp only [Bool.and_eq_true, decide_eq_true_eq] at q
      obtain ⟨⟨⟨⟨⟨rfl, q2⟩, q3⟩, q3'⟩, q4⟩, q5⟩ := q
      cases tg <;> first | exact (PI.cast (n_zip h.hK (h.gl q2) (h.blt _ (by simp [bltNames])) (okE a h _ q4) (okE b h _ q5) q3 q3') fun σ S => by rw [evI] <;> rfl) | cases qt
    · cases q
  | .enum a, Γ, X, W, h, tg, x, q => by
    unfold chkI at q
    rw [Bool.and_eq_true] at q
    obtain ⟨qt, q⟩ := q
    split at q
    · simp only [Bool.and_eq_true, decide_eq_true_eq] at q
      obtain ⟨⟨⟨rfl, q2⟩, q3⟩, q4⟩ := q
      cases tg <;> first | exact (PI.cast (n_enum h.hK (h.gl q2) (h.blt _ (by simp [bltNames])) (okE a h _ q4) q3) fun σ S => by rw [evI] <;> rfl) | cases qt
    · cases q
end
end
end DL
end
section
set_option Elab.async false
set_option autoImplicit false
set_option linter.all false
set_option maxRecDepth 100000
set_option maxHeartbeats 2000000
/-! DLm: statements: readings and nodes. -/
namespace DL
open PySem PySem.Spec PyProof.Rows L2
section
variable {G : Glob} {W : WX}
def PostS (G : Glob) (W : WX) (D : Ends) (r : RS) : OutS → Prop
  | .nx σ S => ∀ σV r', Ext r r' → Rl G r' S → RSt G r' σ σV → D.nx σV r'.H
  | .bk σ S => ∀ σV r', Ext r r' → Rl G r' S → RSt G r' σ σV → D.bk σV r'.H
  | .ct σ S => ∀ σV r', Ext r r' → Rl G r' S → RSt G r' σ σV → D.ct σV r'.H
  | .ret d S => ∀ v r', Ext r r' → Rl G r' S → Rep G r' d v → D.rt v r'.H
  | .exc x σ S => ∀ cls dd σV r', Ext r r' → Rl G r' S → RSt G r' σ σV → RepX G r' x cls dd → W cls dd σV r'.H
  | .bad => False
theorem PostS.from {D : Ends} {r r1 : RS} {o : OutS} (e : Ext r r1) (h : PostS G W D r o) : PostS G W D r1 o := by
  cases o with
  | nx σ S => exact fun σV r' e' l s => h σV r' (e.trans e') l s
  | bk σ S => exact fun σV r' e' l s => h σV r' (e.trans e') l s
  | ct σ S => exact fun σV r' e' l s => h σV r' (e.trans e') l s
  | ret d S => exact fun v r' e' l s => h v r' (e.trans e') l s
  | exc x σ S => exact fun c d σV r' e' l s => h c d σV r' (e.trans e') l s
  | bad => exact h
def tS (G : Glob) (W : WX) (f : Env → Store → OutS) : TS := fun D σV H => ∃ σ S r, r.H = H ∧ Rl G r S ∧ RSt G r σ σV ∧ PostS G W D r (f σ S)
/-- an expression within a statement -/
theorem PostS.stm {α β : Type} {rel : RS → α → β → Prop} {D : Ends} {σ : Env} {σV : L2.St} {r : RS} {o : Out α} {f : α → Store → OutS} (s : RSt G r σ σV) (h : PostS G W D r (o.stm σ f)) :
    Post G rel W σV r o fun b H1 => ∃ a S r1, r1.H = H1 ∧ Ext r r1 ∧ Rl G r1 S ∧ rel r1 a b ∧ PostS G W D r1 (f a S) := by
  cases o with
  | ok a S => exact fun b r' e l z => ⟨a, S, r', rfl, e, l, z, PostS.from e h⟩
  | exc x S => exact fun c d r' e l z => h c d σV r' e l (s.ext e) z
  | bad => exact h
theorem PostS.seq {D : Ends} {r : RS} {o : OutS} {f : Env → Store → OutS} (h : PostS G W D r (o.andThen f)) : PostS G W { D with nx := tS G W f D } r o := by
  cases o with
  | nx σ S => exact fun σV r' e l s => ⟨σ, S, r', rfl, l, s, PostS.from e h⟩
  | bk σ S => exact h
  | ct σ S => exact h
  | ret d S => exact h
  | exc x σ S => exact h
  | bad => exact h
variable {X : Cx}
theorem tS.step {α β : Type} {rel : RS → α → β → Prop} {f : Env → Store → Out α} {g : Env → α → Store → OutS} {σV : L2.St} {H : Hp} {D : Ends}
    (h : tS G W (fun σ S => (f σ S).stm σ (g σ)) D σV H) {R : β → Hp → Prop}
    (k : ∀ b σ a S r, Rl G r S → RSt G r σ σV → rel r a b → PostS G W D r (g σ a S) → R b r.H) : tX G W rel f σV H R := by
  obtain ⟨σ, S, r, e, l, s, p⟩ := h
  refine ⟨σ, S, r, e, l, s, (PostS.stm s p).mono fun b H1 ⟨a, S1, r1, e1, x, l1, z, p1⟩ => ?_⟩
  subst e1
  exact k b σ a S1 r1 l1 (s.ext x) z p1
theorem PS.cast {st : Stmt} {f g : Env → Store → OutS} (h : PS X st (tS G W f)) (q : ∀ σ S, g σ S = f σ S) : PS X st (tS G W g) := by
  have : g = f := funext fun σ => funext (q σ)
  rw [this]; exact h
/-! simple ones -/
theorem s_pass {pos : Pos} : PS X (.Pass pos) (tS G W (fun σ S => .nx σ S)) :=
  PS.mono ps_pass fun D σV H ⟨σ, S, r, e, l, s, p⟩ => by subst e; exact p σV r (Ext.refl r) l s
theorem s_doc {x : Str} {j : Nat} {p pos : Pos} : PS X (.Expr (.Constant (.str x) j p) pos) (tS G W (fun σ S => .nx σ S)) :=
  PS.mono ps_doc fun D σV H ⟨σ, S, r, e, l, s, p⟩ => by subst e; exact p σV r (Ext.refl r) l s
theorem s_brk {pos : Pos} : PS X (.Break pos) (tS G W (fun σ S => .bk σ S)) :=
  PS.mono ps_break fun D σV H ⟨σ, S, r, e, l, s, p⟩ => by subst e; exact p σV r (Ext.refl r) l s
theorem s_cont {pos : Pos} : PS X (.Continue pos) (tS G W (fun σ S => .ct σ S)) :=
  PS.mono ps_continue fun D σV H ⟨σ, S, r, e, l, s, p⟩ => by subst e; exact p σV r (Ext.refl r) l s
theorem s_never {st : Stmt} : PS X st (tS G W (fun _ _ => .bad)) :=
  PS.mono ps_never fun D σV H ⟨σ, S, r, e, l, s, p⟩ => p
variable {fe fo fi : Env → Store → Out D} {e o i : Expr}
theorem s_ret {pos : Pos} (he : PE X e (tD G W fe)) : PS X (.Return (some e) pos) (tS G W (fun σ S => (fe σ S).stm σ fun d S => .ret d S)) :=
  PS.mono (ps_ret he) fun D σV H h => tS.step (rel := Rep G) h fun v σ d S r l s hd p => p v r (Ext.refl r) l hd
theorem s_retN {pos : Pos} : PS X (.Return none pos) (tS G W (fun _ S => .ret .non S)) :=
  PS.mono ps_retN fun D σV H ⟨σ, S, r, e, l, s, p⟩ => by subst e; exact p .non r (Ext.refl r) l .non
def notComp : Expr → Bool
  | .ListComp _ _ _ _ => false
  | .SetComp _ _ _ _ => false
  | .DictComp _ _ _ _ _ => false
  | _ => true
theorem sw_false {v : Expr} (h : notComp v = true) (t : Option Expr) (l : Nat) (env : PySem.Env) : swapsWith v t l env = pure false := by
  cases v <;> first | rfl | cases h
theorem s_exp {pos : Pos} (he : PE X e (tD G W fe)) (hn : notComp e = true) : PS X (.Expr e pos) (tS G W (fun σ S => (fe σ S).stm σ fun _ S => .nx σ S)) :=
  PS.mono (ps_expr he (sw_false hn _ _ _)) fun D σV H h => tS.step (rel := Rep G) h fun v σ d S r l s hd p => p σV r (Ext.refl r) l s
theorem s_app (hK : X.K = G.K) {apos cpos pos : Pos} (ho : PE X o (tD G W fo)) (he : PE X e (tD G W fe)) (hn : noStar e = true) (hbase : attributeBase o "append" X.env (eval o X.env) = eval o X.env) (hl : (apos.endLine == cpos.line) = true) :
    PS X (.Expr (.Call (.Attribute o "append" apos) [e] [] cpos) pos) (tS G W (fun σ S => (fo σ S).stm σ fun x S => if isRef x then (fe σ S).stm σ fun v S => match appIt x v S with | some S2 => .nx σ S2 | none => .bad else .bad)) := by
  refine PS.mono (ps_expr (pe_bm PySem.F.plainAttrs_list PySem.F.slot_list_append PySem.F.type_list_append mt_append ho (pa_cons he pa_nil (starEach_cons hn)) hbase (by rw [starEach_cons hn]; rfl) hl (starEach_cons hn) rfl) (sw_false rfl _ _ _)) fun E σV H h => ?_
  refine tS.step (rel := Rep G) h fun vx σ x S r l s hx p => ?_
  cases x with
  | ref n =>
    have p : PostS G W E r ((fe σ S).stm σ fun v S => match appIt (.ref n) v S with | some S2 => .nx σ S2 | none => .bad) := p
    cases hx with
    | ref hm =>
      rename_i a
      cases hn : S[n]? with
      | none => exact absurd hn (mu_len l n (by rw [hm]; exact Option.some_ne_none _))
      | some xs =>
        obtain ⟨a', vs, h1, h2, h3⟩ := l.obj n xs hn
        rw [hm] at h1; cases h1
        refine ⟨.inl ⟨rfl, vs, .inl (.inl h2)⟩, σ, S, r, rfl, l, s, (PostS.stm (rel := Rep G) s p).mono fun y H1 ⟨v, S1, r1, e1, x1, l1, hv, p1⟩ => ?_⟩
        subst e1
        have hm1 := x1.mu n a hm
        simp only [appIt] at p1
        cases hn1 : S1[n]? with
        | none => exact absurd hn1 (mu_len l1 n (by rw [hm1]; exact Option.some_ne_none _))
        | some xs1 =>
          rw [hn1] at p1
          dsimp only [Option.bind] at p1
          obtain ⟨a1, vs1, k1, k2, k3⟩ := l1.obj n xs1 hn1
          rw [hm1] at k1; cases k1
          split at p1
          · rename_i S2 e2
            split at e2
            · rename_i hz
              cases e2
              refine ⟨a, vs1, y, rfl, rfl, k2, ?_, ?_⟩
              · rw [← k3.length]; exact isOk hz
              · have x2 := Ext.wr l1 (List.mem_of_getElem? hm1) (vs1 ++ [y])
                exact p1 σV (r1.wr a (vs1 ++ [y])) x2 (Rl.wr l1 hm1 (k3.append (.cons hv .nil))) ((s.ext x1).ext x2)
            · cases e2
          · exact False.elim p1
  | _ => exact False.elim p
/-! blocks, if, loops -/
variable {ft : Env → Store → Out Bool} {fa fb : Env → Store → OutS} {c : Expr} {as bs : List Stmt}
theorem PSs.cast {st : List Stmt} {f g : Env → Store → OutS} (h : PSs X st (tS G W f)) (q : ∀ σ S, g σ S = f σ S) : PSs X st (tS G W g) := by
  have : g = f := funext fun σ => funext (q σ)
  rw [this]; exact h
theorem ss_nil : PSs X [] (tS G W (fun σ S => .nx σ S)) :=
  PSs.mono pss_nil fun E σV H ⟨σ, S, r, e, l, s, p⟩ => by subst e; exact p σV r (Ext.refl r) l s
theorem ss_cons {st : Stmt} {rest : List Stmt} (h1 : PS X st (tS G W fa)) (h2 : PSs X rest (tS G W fb)) : PSs X (st :: rest) (tS G W (fun σ S => (fa σ S).andThen fb)) :=
  PSs.mono (pss_cons h1 h2) fun E σV H ⟨σ, S, r, e, l, s, p⟩ => ⟨σ, S, r, e, l, s, PostS.seq p⟩
theorem s_if {pos : Pos} (hc : PT X c (tT G W ft)) (ha : PSs X as (tS G W fa)) (hb : PSs X bs (tS G W fb)) : PS X (.If c as bs pos) (tS G W (fun σ S => (ft σ S).stm σ fun c S => match c with | true => fa σ S | false => fb σ S)) := by
  refine PS.mono (ps_if hc ha hb) fun E σV H h => ?_
  refine tS.step (rel := RT) h fun k σ k' S r l s hk p => ?_
  cases hk
  cases k with
  | true => exact ⟨σ, S, r, rfl, l, s, p⟩
  | false => exact ⟨σ, S, r, rfl, l, s, p⟩
theorem s_wh {pos : Pos} (hp : PassesOwn (model X.prog X.w) X.A X.env X.xe) (hc : PT X c (tT G W ft)) (hb : PSs X bs (tS G W fb)) (n : Nat) : PS X (.While c bs [] pos) (tS G W (fun σ S => whGo ft fb n σ S)) := by
  refine PS.mono (ps_while hp hc hb) fun E σV H h => ?_
  refine ⟨fun m σV H => tS G W (fun σ S => whGo ft fb m σ S) E σV H, ⟨n, h⟩, fun m σV H h => ?_⟩
  cases m with
  | zero =>
    obtain ⟨σ, S, r, e, l, s, p⟩ := h
    exact False.elim p
  | succ m =>
    have h : tS G W (fun σ S => (ft σ S).stm σ fun c S => match c with
      | false => .nx σ S
      | true => match fb σ S with
        | .nx σ S => whGo ft fb m σ S
        | .ct σ S => whGo ft fb m σ S
        | .bk σ S => .nx σ S
        | o => o) E σV H := h
    refine tS.step (rel := RT) h fun k σ k' S r l s hk p => ?_
    cases hk
    cases k with
    | false =>
      simp only [Bool.false_eq_true, if_false]
      exact p σV r (Ext.refl r) l s
    | true =>
      simp only [if_true]
      refine ⟨fun σV H => tS G W (fun σ S => whGo ft fb m σ S) E σV H, fun σ' H' q => ⟨m, Nat.lt_succ_self m, q⟩, σ, S, r, rfl, l, s, ?_⟩
      dsimp only at p
      cases h : fb σ S with
      | nx σ1 S1 => rw [h] at p; exact fun σV' r' e' l' s' => ⟨σ1, S1, r', rfl, l', s', PostS.from e' p⟩
      | ct σ1 S1 => rw [h] at p; exact fun σV' r' e' l' s' => ⟨σ1, S1, r', rfl, l', s', PostS.from e' p⟩
      | bk σ1 S1 => rw [h] at p; exact p
      | ret d S1 => rw [h] at p; exact p
      | exc x σ1 S1 => rw [h] at p; exact p
      | bad => rw [h] at p; exact p
theorem s_for {iter tge : Expr} {tg : Tg} {fi : Env → Store → Out (List D)} {pos : Pos} (hp : PassesOwn (model X.prog X.w) X.A X.env X.xe) (hc : X.calm = true) (hi : PI X tge iter (tI G W fi)) (hg : PG X tge (gD G (tgSlots tg) (asg tg))) (hb : PSs X bs (tS G W fb))
    (hs : ∀ x, foldedSetIterable iter X.env x = pure x) : PS X (.For tge iter bs [] pos) (tS G W (fun σ S => (fi σ S).stm σ fun ds S => forGo tg fb ds σ S)) := by
  refine PS.mono (ps_for hp hc hi hg hb hs) fun E σV H h => ?_
  refine tS.step (rel := ItOk G) h fun J σ ds S r l s hJ p => ?_
  refine ⟨fun i m σV H => m = ds.length - i ∧ i ≤ ds.length ∧ ∃ σ S r', r'.H = H ∧ Ext r r' ∧ Rl G r' S ∧ RSt G r' σ σV ∧ PostS G W E r' (forGo tg fb (ds.drop i) σ S), ⟨ds.length, by simp, Nat.zero_le _, σ, S, r, rfl, Ext.refl r, l, s, p⟩, ?_⟩
  rintro i m σV H ⟨rfl, hi, σ, S, r', rfl, x, l, s, p⟩
  obtain ⟨st, go⟩ := hJ r' S x.toGrow l
  by_cases hlt : i < ds.length
  · right
    have ed : ds[i]? = some ds[i] := List.getElem?_eq_getElem hlt
    obtain ⟨g1, g2⟩ := go i _ ed
    rw [List.drop_eq_getElem_cons hlt] at p
    unfold forGo at p
    refine ⟨g1, fun σV H => (∃ σ S r', r'.H = H ∧ Ext r r' ∧ Rl G r' S ∧ RSt G r' σ σV ∧ PostS G W E r' (forGo tg fb (ds.drop (i + 1)) σ S)), fun σV' H' q => ⟨ds.length - (i + 1), by omega, rfl, hlt, q⟩, fun v H' y => ?_⟩
    obtain ⟨r2, rfl, x2, l2, h2⟩ := g2 v H' y
    split at p
    · exact False.elim p
    rename_i σ2 ea
    refine ⟨ds[i], σ, S, r2, σ2, rfl, l2, s.ext x2, h2, ea, fun σV2 s2 df => ⟨σ2, S, r2, rfl, l2, s2, ?_⟩⟩
    have p := PostS.from x2 p
    cases h : fb σ2 S with
    | nx σ1 S1 => rw [h] at p; exact fun σV' r' e' l' s' => ⟨σ1, S1, r', rfl, (x.trans x2).trans e', l', s', PostS.from e' p⟩
    | ct σ1 S1 => rw [h] at p; exact fun σV' r' e' l' s' => ⟨σ1, S1, r', rfl, (x.trans x2).trans e', l', s', PostS.from e' p⟩
    | bk σ1 S1 => rw [h] at p; exact p
    | ret d S1 => rw [h] at p; exact p
    | exc x σ1 S1 => rw [h] at p; exact p
    | bad => rw [h] at p; exact p
  · left
    have e : i = ds.length := by omega
    subst e
    refine ⟨st _ (Nat.le_refl _), ?_⟩
    rw [List.drop_length] at p
    unfold forGo at p
    exact p σV r' (Ext.refl r') l s

/-! ### targets of assignments -/
def PostN (G : Glob) (W : WX) (r : RS) (Q : L2.St → Hp → Prop) : OutS → Prop
  | .nx σ S => ∀ σV r', Ext r r' → Rl G r' S → RSt G r' σ σV → Q σV r'.H
  | .exc x σ S => ∀ cls dd σV r', Ext r r' → Rl G r' S → RSt G r' σ σV → RepX G r' x cls dd → W cls dd σV r'.H
  | _ => False
theorem PostN.from {Q : L2.St → Hp → Prop} {r r1 : RS} {o : OutS} (e : Ext r r1) (h : PostN G W r Q o) : PostN G W r1 Q o := by
  cases o with
  | nx σ S => exact fun σV r' e' l s => h σV r' (e.trans e') l s
  | exc x σ S => exact fun c d σV r' e' l s => h c d σV r' (e.trans e') l s
  | _ => exact h
def gG (G : Glob) (W : WX) (f : D → Env → Store → OutS) : TG := fun v σV H Q => ∃ d σ S r, r.H = H ∧ Rl G r S ∧ RSt G r σ σV ∧ Rep G r d v ∧ PostN G W r Q (f d σ S)
def gGs (G : Glob) (W : WX) (f : List D → Env → Store → OutS) : TGs := fun vs σV H Q => ∃ ds σ S r, r.H = H ∧ Rl G r S ∧ RSt G r σ σV ∧ Reps G r ds vs ∧ PostN G W r Q (f ds σ S)
theorem PostN.stm {Q : L2.St → Hp → Prop} {α β : Type} {rel : RS → α → β → Prop} {σ : Env} {σV : L2.St} {r : RS} {o : Out α} {f : α → Store → OutS} (s : RSt G r σ σV) (h : PostN G W r Q (o.stm σ f)) :
    Post G rel W σV r o fun b H1 => ∃ a S r1, r1.H = H1 ∧ Ext r r1 ∧ Rl G r1 S ∧ rel r1 a b ∧ PostN G W r1 Q (f a S) := by
  cases o with
  | ok a S => exact fun b r' e l z => ⟨a, S, r', rfl, e, l, z, PostN.from e h⟩
  | exc x S => exact fun c d r' e l z => h c d σV r' e l (s.ext e) z
  | bad => exact h
theorem gg_name {i : Nat} {x : Str} {pos : Pos} {cl : Cl} {gc : List D} (hN : X.N.Nodup) (hi : X.N[i]? = some x) (hx : Loc X.env.scope x) (hf : X.fn x = true ∨ X.env.scope.names.lookup x = some .local) : PG X (.Name x pos) (gG G W (asgG cl gc (.nm i))) := by
  refine PG.mono (pg_name hN hi hx hf) fun v σV H Q ⟨d, σ, S, r, e, l, s, hd, p⟩ => ?_
  subst e
  rw [asgG] at p
  exact p _ r (Ext.refl r) l (s.set hd i)
theorem gg_sub {o i : Expr} {eo ei : E} {pos : Pos} {cl : Cl} {gc : List D} (ho : PE X o (tD G W (evE cl gc eo))) (hi : PE X i (tD G W (evE cl gc ei))) (hp : plainB i = true) : PG X (.Subscript o i pos) (gG G W (asgG cl gc (.sub eo ei))) := by
  refine PG.mono (pg_sub ho hi set_list (by intro v; cases i <;> first | rfl | cases hp)) fun v σV H Q ⟨d, σ, S, r, e, l, s, hd, p⟩ => ?_
  subst e
  rw [asgG] at p
  refine ⟨σ, S, r, rfl, l, s, (PostN.stm (rel := Rep G) s p).mono fun vo H1 ⟨x, S1, r1, e1, x1, l1, hx, p1⟩ => ?_⟩
  subst e1
  refine ⟨σ, S1, r1, rfl, l1, s.ext x1, (PostN.stm (rel := Rep G) (s.ext x1) p1).mono fun vi H2 ⟨k, S2, r2, e2, x2, l2, hk, p2⟩ => ?_⟩
  subst e2
  have hx := hx.ext x2
  have hd := (hd.ext x1).ext x2
  cases x with
  | ref n =>
    cases k with
    | int j =>
      cases hx with
      | @ref _ a hm =>
        cases hk
        simp only [setIt] at p2
        cases hn : S2[n]? with
        | none => rw [hn] at p2; exact False.elim p2
        | some xs =>
          rw [hn] at p2
          obtain ⟨a', vs, h1, h2, h3⟩ := l2.obj n xs hn
          rw [hm] at h1; cases h1
          cases hj : ixAt xs.length j with
          | none => simp only [Option.bind, hj, Option.map] at p2; exact False.elim p2
          | some m =>
            simp only [Option.bind, hj, Option.map] at p2
            refine ⟨a, vs, j, m, rfl, rfl, h2, ?_, ?_⟩
            · rw [← h3.length]; exact hj
            · have x3 := Ext.wr l2 (List.mem_of_getElem? hm) (vs.set m v)
              exact p2 σV (r2.wr a (vs.set m v)) x3 (Rl.wr l2 hm (h3.set hd m)) (((s.ext x1).ext x2).ext x3)
    | _ => exact False.elim p2
  | _ => exact False.elim p2
theorem gg_nil {cl : Cl} {gc : List D} : PGs X [] (gGs G W (asgsG cl gc [])) := by
  refine PGs.mono pgs_nil fun v σV H Q ⟨d, σ, S, r, e, l, s, hd, p⟩ => ?_
  subst e
  cases d with
  | nil =>
    cases hd
    rw [asgsG] at p
    exact ⟨rfl, p σV r (Ext.refl r) l s⟩
  | cons a b => rw [asgsG] at p; exact False.elim p; all_goals (intros; simp_all)
theorem gg_cons {cl : Cl} {gc : List D} {t : Tg} {ts : List Tg} {e : Expr} {es : List Expr} (h1 : PG X e (gG G W (asgG cl gc t))) (h2 : PGs X es (gGs G W (asgsG cl gc ts)))
    (hs : (assignEach (e :: es) X.env).map (·.2) = assign e X.env :: (assignEach es X.env).map (·.2)) : PGs X (e :: es) (gGs G W (asgsG cl gc (t :: ts))) := by
  refine PGs.mono (pgs_cons h1 h2 hs) fun v σV H Q ⟨d, σ, S, r, e, l, s, hd, p⟩ => ?_
  subst e
  cases d with
  | nil => rw [asgsG] at p; exact False.elim p; all_goals (intros; simp_all)
  | cons a b =>
    rw [asgsG] at p
    cases hd with
    | cons h hs =>
      refine ⟨_, _, rfl, a, σ, S, r, rfl, l, s, h, ?_⟩
      cases hq : asgG cl gc t a σ S with
      | nx σ1 S1 =>
        rw [hq] at p
        exact fun σV' r' e' l' s' => ⟨b, σ1, S1, r', rfl, l', s', hs.ext e', PostN.from e' p⟩
      | exc x σ1 S1 => rw [hq] at p; exact p
      | ret d S1 => rw [hq] at p; exact p
      | bk σ1 S1 => rw [hq] at p; exact p
      | ct σ1 S1 => rw [hq] at p; exact p
      | bad => rw [hq] at p; exact p
theorem gg_tup (hK : X.K = G.K) {cl : Cl} {gc : List D} {ts : List Tg} {es : List Expr} {k : Nat} {pos : Pos} (hc : X.calm = true) (h : PGs X es (gGs G W (asgsG cl gc ts))) (hl : ts.length = es.length)
    (hn : (assignEach es X.env).length = es.length) (hst : (assignEach es X.env).findIdx? (·.1) = none) : PG X (.Tuple es k pos) (gG G W (asgG cl gc (.tp ts))) := by
  refine PG.mono (pg_tup hc h hn hst) fun v σV H Q ⟨d, σ, S, r, e, l, s, hd, p⟩ => ?_
  subst e
  cases d with
  | tup ds =>
    rw [asgG] at p
    split at p
    · rename_i hz
      cases hd with
      | tup f hs =>
        refine ⟨_, _, rfl, by rw [hK]; exact f.sq, ?_, ds, σ, S, r, rfl, l, s, hs, p⟩
        rw [← hs.length, ← hl]
        exact Nat.eq_of_beq_eq_true hz
    · exact False.elim p
  | _ => rw [asgG] at p; exact False.elim p; all_goals (intros; simp_all)
def isN : OutS → Bool
  | .nx _ _ => true
  | .exc _ _ _ => true
  | .bad => true
  | _ => false
theorem isN_seq {o : OutS} {f : Env → Store → OutS} (h : isN o = true) (q : ∀ σ S, isN (f σ S) = true) : isN (o.andThen f) = true := by
  cases o <;> first | exact q _ _ | rfl | cases h
theorem isN_stm {α : Type} {o : Out α} {σ : Env} {f : α → Store → OutS} (q : ∀ a S, isN (f a S) = true) : isN (o.stm σ f) = true := by
  cases o <;> first | exact q _ _ | rfl
mutual
theorem asgG_isN (cl : Cl) (gc : List D) : ∀ (t : Tg) (d : D) (σ : Env) (S : Store), isN (asgG cl gc t d σ S) = true
  | .nm i, d, σ, S => by rw [asgG]; rfl
  | .tp ts, d, σ, S => by
    cases d with
    | tup ds =>
      rw [asgG]
      split
      · exact asgsG_isN cl gc ts ds σ S
      · rfl
    | _ => rw [asgG]; rfl; all_goals (intros; simp_all)
  | .sub o i, d, σ, S => by
    rw [asgG]
    refine isN_stm fun x S => isN_stm fun k S => ?_
    split <;> rfl
theorem asgsG_isN (cl : Cl) (gc : List D) : ∀ (ts : List Tg) (ds : List D) (σ : Env) (S : Store), isN (asgsG cl gc ts ds σ S) = true
  | [], [], σ, S => by rw [asgsG]; rfl
  | [], _ :: _, σ, S => by rw [asgsG]; rfl; all_goals (intros; simp_all)
  | _ :: _, [], σ, S => by rw [asgsG]; rfl; all_goals (intros; simp_all)
  | t :: ts, d :: ds, σ, S => by
    rw [asgsG]
    exact isN_seq (asgG_isN cl gc t d σ S) fun σ S => asgsG_isN cl gc ts ds σ S
end
theorem PostS.toN {E : Ends} {r : RS} {o : OutS} (h : PostS G W E r o) (n : isN o = true) : PostN G W r E.nx o := by
  cases o with
  | nx σ S => exact h
  | exc x σ S => exact h
  | bad => exact h
  | _ => cases n
theorem assign1 {t : Expr} (h : noStar t = true) (env : PySem.Env) : (assignEach [t] env).map (·.2) = [assign t env] := by
  cases t <;> first | rfl | cases h
theorem s_asg {cl : Cl} {gc : List D} {tg : Tg} {t : Expr} {pos : Pos} (he : PE X e (tD G W fe)) (hg : PG X t (gG G W (asgG cl gc tg))) (hn : notComp e = true) (hw : swappedStores [t] e X.env = pure none) (hs : noStar t = true) :
    PS X (.Assign [t] e pos) (tS G W (fun σ S => (fe σ S).stm σ fun d S => asgG cl gc tg d σ S)) := by
  refine PS.mono (ps_asg he hg (sw_false hn _ _ _) hw (assign1 hs _)) fun E σV H h => ?_
  refine tS.step (rel := Rep G) h fun v σ d S r l s hd p => ?_
  exact ⟨d, σ, S, r, rfl, l, s, hd, p.toN (asgG_isN cl gc tg d σ S)⟩
/-- name = value, a comprehension that is not stored straight, too -/
theorem s_asgC {cl : Cl} {gc : List D} {tg : Tg} {t : Expr} {pos : Pos} (he : PE X e (tD G W fe)) (hg : PG X t (gG G W (asgG cl gc tg))) (hn : swapsWith e (some t) pos.line X.env = pure false) (hw : swappedStores [t] e X.env = pure none) (hs : noStar t = true) :
    PS X (.Assign [t] e pos) (tS G W (fun σ S => (fe σ S).stm σ fun d S => asgG cl gc tg d σ S)) := by
  refine PS.mono (ps_asg he hg hn hw (assign1 hs _)) fun E σV H h => ?_
  refine tS.step (rel := Rep G) h fun v σ d S r l s hd p => ?_
  exact ⟨d, σ, S, r, rfl, l, s, hd, p.toN (asgG_isN cl gc tg d σ S)⟩
theorem tup_stm (o : Out (List D)) (σ : Env) (f : D → Store → OutS) : ((o.bind fun ds S => if fits ds.length then .ok (.tup ds) S else .bad).stm σ f) = o.stm σ fun ds S => if fits ds.length then f (.tup ds) S else .bad := by
  cases o with
  | ok ds S =>
    show (Out.stm (if fits ds.length = true then .ok (.tup ds) S else .bad) σ f) = if fits ds.length = true then f (.tup ds) S else .bad
    split <;> rfl
  | exc x S => rfl
  | bad => rfl
/-- x, y = a, b stored from the right -/
theorem s_par {cl : Cl} {gc : List D} {i j : Nat} {x y : Str} {a b : Expr} {fs : Env → Store → Out (List D)} {px py pt pos : Pos} {kt k2 pt2} (hc : X.calm = true) (hN : X.N.Nodup) (hi : X.N[i]? = some x) (hj : X.N[j]? = some y) (hij : i ≠ j)
    (hx : X.env.scope.names.lookup x = some .local) (hy : X.env.scope.names.lookup y = some .local) (ha : PA X [a, b] (tDs G W fs))
    (hw : swappedStores [.Tuple [.Name x px, .Name y py] kt pt] (.Tuple [a, b] k2 pt2) X.env = pure (some [x, y])) :
    PS X (.Assign [.Tuple [.Name x px, .Name y py] kt pt] (.Tuple [a, b] k2 pt2) pos) (tS G W (fun σ S => ((fs σ S).bind fun ds S => if fits ds.length then .ok (.tup ds) S else .bad).stm σ fun d S => asgG cl gc (.tp [.nm i, .nm j]) d σ S)) := by
  refine PS.mono (ps_par hc hN hi hj hij hx hy ha hw) fun E σV H h => ?_
  have h : tS G W (fun σ S => (fs σ S).stm σ fun ds S => if fits ds.length then asgG cl gc (.tp [.nm i, .nm j]) (.tup ds) σ S else .bad) E σV H := by
    obtain ⟨σ, S, r, e, l, s, p⟩ := h
    exact ⟨σ, S, r, e, l, s, by dsimp only at p; rw [tup_stm] at p; exact p⟩
  refine tS.step (rel := Reps G) h fun vs σ ds S r l s hd p => ?_
  split at p
  · rw [asgG] at p
    split at p
    · rename_i hz
      have hz := Nat.eq_of_beq_eq_true hz
      cases hd with
      | nil => cases hz
      | cons h1 q1 =>
        cases q1 with
        | nil => cases hz
        | cons h2 q2 =>
          cases q2 with
          | cons _ _ => simp at hz
          | nil =>
            refine ⟨_, _, rfl, ?_⟩
            simp only [asgsG, asgG, OutS.andThen] at p
            exact p _ r (Ext.refl r) l ((s.set h1 i).set h2 j)
    · exact False.elim p
  · exact False.elim p
theorem s_par3 {cl : Cl} {gc : List D} {i j k : Nat} {x y z : Str} {a b c : Expr} {fs : Env → Store → Out (List D)} {px py pz pt pos : Pos} {kt k2 pt2} (hc : X.calm = true) (hN : X.N.Nodup) (hi : X.N[i]? = some x) (hj : X.N[j]? = some y) (hk : X.N[k]? = some z) (hij : i ≠ j) (hik : i ≠ k) (hjk : j ≠ k)
    (hx : X.env.scope.names.lookup x = some .local) (hy : X.env.scope.names.lookup y = some .local) (hz : X.env.scope.names.lookup z = some .local) (ha : PA X [a, b, c] (tDs G W fs))
    (hw : swappedStores [.Tuple [.Name x px, .Name y py, .Name z pz] kt pt] (.Tuple [a, b, c] k2 pt2) X.env = pure (some [x, y, z])) :
    PS X (.Assign [.Tuple [.Name x px, .Name y py, .Name z pz] kt pt] (.Tuple [a, b, c] k2 pt2) pos) (tS G W (fun σ S => ((fs σ S).bind fun ds S => if fits ds.length then .ok (.tup ds) S else .bad).stm σ fun d S => asgG cl gc (.tp [.nm i, .nm j, .nm k]) d σ S)) := by
  refine PS.mono (ps_par3 hc hN hi hj hk hij hik hjk hx hy hz ha hw) fun E σV H h => ?_
  have h : tS G W (fun σ S => (fs σ S).stm σ fun ds S => if fits ds.length then asgG cl gc (.tp [.nm i, .nm j, .nm k]) (.tup ds) σ S else .bad) E σV H := by
    obtain ⟨σ, S, r, e, l, s, p⟩ := h
    exact ⟨σ, S, r, e, l, s, by dsimp only at p; rw [tup_stm] at p; exact p⟩
  refine tS.step (rel := Reps G) h fun vs σ ds S r l s hd p => ?_
  split at p
  · rw [asgG] at p
    split at p
    · rename_i hz
      have hz := Nat.eq_of_beq_eq_true hz
      cases hd with
      | nil => cases hz
      | cons h1 q1 =>
        cases q1 with
        | nil => cases hz
        | cons h2 q2 =>
          cases q2 with
          | nil => cases hz
          | cons h3 q3 =>
            cases q3 with
            | cons _ _ => simp at hz
            | nil =>
              refine ⟨_, _, _, rfl, ?_⟩
              simp only [asgsG, asgG, OutS.andThen] at p
              exact p _ r (Ext.refl r) l (((s.set h1 i).set h2 j).set h3 k)
    · exact False.elim p
  · exact False.elim p
end
end DL
end
section
set_option Elab.async false
set_option autoImplicit false
set_option linter.all false
set_option maxRecDepth 100000
set_option maxHeartbeats 2000000
/-! DLn: which statement says what a term says. -/
namespace DL
open PySem PySem.Spec PyProof.Rows L2

def swB (sc : Scope) (y : Str) (py pos : Pos) (scope : Scope) : Bool := (sc.names.lookup y == some .local) && (py.line == pos.line) && !(scope.names.any fun (n, k) => n == y && (k == .local || k == .cell))
theorem sw_eq {elt : Expr} {gs : List Comprehension} {scope : Scope} {pos py : Pos} {y : Str} {l : Nat} {env : PySem.Env} (hk : env.scope.kind = .function) :
    swapsWith (.ListComp elt gs scope pos) (some (.Name y py)) l env = pure (swB env.scope y py pos scope) := by
  have hb : env.blockKind = .function := by unfold Env.blockKind; rw [hk]; rfl
  unfold swapsWith swB
  simp only [hb, Expr.pos]
  rfl
def isStar : Expr → Bool
  | .Starred _ _ => true
  | _ => false
def swName (sc : Scope) (line : Nat) : Expr → Option Str
  | .Name id pos => if sc.names.lookup id == some .local && pos.line == line then some id else none
  | _ => none
def swT (sc : Scope) (ts vs : List Expr) : Option (Option (List Str)) :=
  if !(ts.length == 2 || ts.length == 3) || vs.length != ts.length then some none else
  if vs.any isStar then some none else
  if (ts.filterMap (swName sc ((ts.head?.map (·.pos.line)).getD 0))).length != ts.length || (ts.filterMap (swName sc ((ts.head?.map (·.pos.line)).getD 0))).eraseDups.length != (ts.filterMap (swName sc ((ts.head?.map (·.pos.line)).getD 0))).length then some none else
  if vs.all (foldedForSure 8) then some none else
  if vs.all (constantsAlone 8) then none else some (some (ts.filterMap (swName sc ((ts.head?.map (·.pos.line)).getD 0))))
theorem swT_ok {ts vs : List Expr} {k k2 : Nat} {p p2 : Pos} {env : PySem.Env} {o : Option (List Str)} (hk : env.scope.kind = .function) (h : swT env.scope ts vs = some o) :
    swappedStores [.Tuple ts k p] (.Tuple vs k2 p2) env = pure o := by
  have hb : env.blockKind = .function := by unfold Env.blockKind; rw [hk]; rfl
  unfold swappedStores
  unfold swT at h
  simp only [hb]
  have e2 : (ScopeKind.function != ScopeKind.function) = false := rfl
  rw [e2, Bool.or_false]
  refine Eq.trans (b := if (!(ts.length == 2 || ts.length == 3) || vs.length != ts.length) = true then pure none else
    if vs.any isStar = true then pure none else
    if ((ts.filterMap (swName env.scope ((ts.head?.map (·.pos.line)).getD 0))).length != ts.length || (ts.filterMap (swName env.scope ((ts.head?.map (·.pos.line)).getD 0))).eraseDups.length != (ts.filterMap (swName env.scope ((ts.head?.map (·.pos.line)).getD 0))).length) = true then pure none else
    if vs.all (foldedForSure 8) = true then pure none else
    if vs.all (constantsAlone 8) = true then (do unsupported "assign.tuple-of-constant-expressions:order-of-the-stores"; pure (some (ts.filterMap (swName env.scope ((ts.head?.map (·.pos.line)).getD 0))))) else pure (some (ts.filterMap (swName env.scope ((ts.head?.map (·.pos.line)).getD 0))))) rfl ?_
  split at h
  · cases h; rw [if_pos (by assumption)]
  rw [if_neg (by assumption)]
  split at h
  · cases h; rw [if_pos (by assumption)]
  rw [if_neg (by assumption)]
  split at h
  · cases h; rw [if_pos (by assumption)]
  rw [if_neg (by assumption)]
  split at h
  · cases h; rw [if_pos (by assumption)]
  rw [if_neg (by assumption)]
  split at h
  · cases h
  · cases h; rw [if_neg (by assumption)]

theorem sw_none {t v : Expr} {env : PySem.Env} (h : isTup t = false ∨ isTup v = false) (hl : ∀ es p, t ≠ .List es p) : swappedStores [t] v env = pure none := by
  unfold swappedStores
  cases t <;> first
    | rfl
    | (exact absurd rfl (hl _ _))
    | (cases v <;> first | rfl | (rcases h with h | h <;> cases h))
def notList : Expr → Bool
  | .List _ _ => false
  | _ => true
mutual
def chkG : Tg → Cenv → Expr → Bool
  | .nm i, Γ, e => (match e with | .Name x _ => decide (Γ.N[i]? = some x) && locB Γ x | _ => false)
  | .tp ts, Γ, e => (match e with | .Tuple es _ _ => chkGs ts Γ es | _ => false)
  | .sub o i, Γ, e => (match e with | .Subscript x y _ => plainB y && chkE o Γ x && chkE i Γ y | _ => false)
def chkGs : List Tg → Cenv → List Expr → Bool
  | [], Γ, es => (match es with | [] => true | _ => false)
  | t :: ts, Γ, es => (match es with | e :: es => noStar e && chkG t Γ e && chkGs ts Γ es | _ => false)
end
def isLoc (Γ : Cenv) (x : Str) : Bool := match Γ.sc.names.lookup x with
  | some .local => true
  | _ => false
def chkPar (Γ : Cenv) (tg : Tg) (e : E) (ts vs : List Expr) : Bool := match ts, vs, tg, e with
  | [.Name x _, .Name y _], [a, b], .tp [.nm i, .nm j], .tup es => decide (Γ.N[i]? = some x) && decide (Γ.N[j]? = some y) && decide (i ≠ j) && isLoc Γ x && isLoc Γ y && chkEs es Γ [a, b] && decide (swT Γ.sc ts vs = some (some [x, y]))
  | [.Name x _, .Name y _, .Name z _], [a, b, c], .tp [.nm i, .nm j, .nm k], .tup es => decide (Γ.N[i]? = some x) && decide (Γ.N[j]? = some y) && decide (Γ.N[k]? = some z) && decide (i ≠ j) && decide (i ≠ k) && decide (j ≠ k) && isLoc Γ x && isLoc Γ y && isLoc Γ z && chkEs es Γ [a, b, c] && decide (swT Γ.sc ts vs = some (some [x, y, z]))
  | _, _, _, _ => false
def chkAsg (Γ : Cenv) (tg : Tg) (e : E) (t v : Expr) : Bool := noStar t && notList t && (match t, v with
  | .Name y py, .ListComp elt gs scope pos => (match swB Γ.sc y py pos scope with
    | true => (match tg, e, gs with
      | .nm i, .comp tg' it c el own, [⟨te, ie, ifs, 0⟩] => decide (Γ.N[i]? = some y) && isLoc Γ y && ownOk Γ scope tg' own && chkTg tg' (Γ.blk scope) te && chkI it Γ te ie && chkC c (Γ.blk scope) ifs && chkE el (Γ.blk scope) elt && notSetI ie
      | _, _, _ => false)
    | false => chkG tg Γ t && chkE e Γ v)
  | .Tuple ts _ _, .Tuple vs _ _ => (match swT Γ.sc ts vs with
    | some none => chkG tg Γ t && chkE e Γ v
    | some (some _) => chkPar Γ tg e ts vs
    | none => false)
  | _, _ => notComp v && (!isTup t || !isTup v) && chkG tg Γ t && chkE e Γ v)
mutual
def chkS : DL.St → Cenv → Stmt → Bool
  | .pass, _, s => (match s with | .Pass _ => true | .Expr (.Constant (.str _) _ _) _ => true | _ => false)
  | .cont, _, s => (match s with | .Continue _ => true | _ => false)
  | .brk, _, s => (match s with | .Break _ => true | _ => false)
  | .ret e, Γ, s => (match s with | .Return (some x) _ => chkE e Γ x | _ => false)
  | .retN, _, s => (match s with | .Return none _ => true | _ => false)
  | .asg tg e, Γ, s => (match s with | .Assign [t] v _ => chkAsg Γ tg e t v | _ => false)
  | .app o e, Γ, s => (match s with | .Expr (.Call (.Attribute x n apos) [y] [] cpos) _ => decide (n = "append") && (apos.endLine == cpos.line) && noStar y && notCall x && chkE o Γ x && chkE e Γ y | _ => false)
  | .exp e, Γ, s => (match s with | .Expr x _ => notComp x && chkE e Γ x | _ => false)
  | .ite t a b, Γ, s => (match s with | .If c as bs _ => chkT t Γ c && chkB a Γ as && chkB b Γ bs | _ => false)
  | .wh t b, Γ, s => (match s with | .While c bs [] _ => chkT t Γ c && chkB b Γ bs | _ => false)
  | .for_ tg it b, Γ, s => (match s with | .For te ie bs [] _ => chkTg tg Γ te && chkI it Γ te ie && chkB b Γ bs && notSetI ie | _ => false)
  | .never, _, _ => true
def chkB : List DL.St → Cenv → List Stmt → Bool
  | [], _, ss => (match ss with | [] => true | _ => false)
  | s :: ss, Γ, xs => (match xs with | x :: xs => chkS s Γ x && chkB ss Γ xs | _ => false)
end
section
variable {G : Glob} {cl : Cl} {gc : List D} {Γ : Cenv} {X : Cx} {W : WX}
mutual
theorem okG (h : XOk G Γ X W cl gc) : ∀ (t : Tg) (e : Expr), chkG t Γ e = true → PG X e (gG G W (asgG cl gc t))
  | .nm i, e, q => by
    unfold chkG at q
    split at q
    · rename_i x pos
      rw [Bool.and_eq_true] at q
      have hi := of_decide_eq_true q.1
      have q2 := q.2
      have hl : Loc X.env.scope x ∧ (X.fn x = true ∨ X.env.scope.names.lookup x = some .local) := by
        rw [h.sc]
        unfold locB at q2
        split at q2
        · rename_i e1
          exact ⟨.inl e1, .inr e1⟩
        · rename_i e1
          split at q2
          · rename_i e2
            exact ⟨.inr e1, .inl (h.fn _ e2)⟩
          · cases q2
        · cases q2
      exact gg_name (by rw [h.hN]; exact h.nd) (by rw [h.hN]; exact hi) hl.1 hl.2
    · cases q
  | .tp ts, e, q => by
    unfold chkG at q
    split at q
    · obtain ⟨h1, h2, h3, h4⟩ := okGs h ts _ q
      exact gg_tup h.hK h.calm h1 h2 h3 h4
    · cases q
  | .sub o i, e, q => by
    unfold chkG at q
    split at q
    · simp only [Bool.and_eq_true] at q
      exact gg_sub (okE o h _ q.1.2) (okE i h _ q.2) q.1.1
    · cases q
theorem okGs (h : XOk G Γ X W cl gc) : ∀ (ts : List Tg) (es : List Expr), chkGs ts Γ es = true → PGs X es (gGs G W (asgsG cl gc ts)) ∧ ts.length = es.length ∧ (assignEach es X.env).length = es.length ∧ (assignEach es X.env).findIdx? (·.1) = none
  | [], es, q => by
    unfold chkGs at q
    split at q
    · exact ⟨gg_nil, rfl, rfl, rfl⟩
    · cases q
  | t :: ts, es, q => by
    unfold chkGs at q
    split at q
    · rename_i e es
      simp only [Bool.and_eq_true] at q
      obtain ⟨h1, h2, h3, h4⟩ := okGs h ts es q.2
      have e1 : assignEach (e :: es) X.env = (false, assign e X.env) :: assignEach es X.env := by
        have z := q.1.1
        cases e <;> first | rfl | cases z
      refine ⟨gg_cons (okG h t e q.1.2) h1 (by rw [e1]; rfl), by simp [h2], by rw [e1]; simp [h3], by rw [e1, List.findIdx?_cons]; simp [h4]⟩
    · cases q
end
theorem isLoc_of {x : Str} (h : isLoc Γ x = true) : Γ.sc.names.lookup x = some .local := by
  unfold isLoc at h
  split at h
  · assumption
  · cases h
theorem okAsg (h : XOk G Γ X W cl gc) (hk : Γ.sc.kind = .function) (tg : Tg) (e : E) {t v : Expr} (q : chkAsg Γ tg e t v = true) (pos : Pos) : PS X (.Assign [t] v pos) (tS G W (fun σ S => (evE cl gc e σ S).stm σ fun d S => asgG cl gc tg d σ S)) := by
  have hk' : X.env.scope.kind = .function := by rw [h.sc]; exact hk
  unfold chkAsg at q
  rw [Bool.and_eq_true, Bool.and_eq_true] at q
  obtain ⟨⟨q0, ql⟩, q⟩ := q
  have ql : ∀ es p, t ≠ .List es p := fun es p z => by subst z; cases ql
  split at q
  · rename_i y py elt gs scope p
    split at q
    · rename_i hs
      split at q
      · rename_i i tg' it c el own te ie ifs
        simp only [Bool.and_eq_true, decide_eq_true_eq] at q
        obtain ⟨⟨⟨⟨⟨⟨⟨p1, p2⟩, q1⟩, q2⟩, q3⟩, q4⟩, q5⟩, q6⟩ := q
        obtain ⟨b1, b2, b3⟩ := own_nd h q1
        refine PS.mono (ps_setLc h.calm (by rw [h.hN]; exact h.nd) (by rw [h.hN]; exact p1) (by rw [h.sc]; exact isLoc_of p2) (by rw [sw_eq hk', h.sc, hs]) (okI it h _ _ q3) b1 (fun s H C cs fp => okTg (h.blk _ s H C cs fp) tg' _ q2) (fun s H C cs fp => okC c (h.blk _ s H C cs fp) _ q4) (fun s H C cs fp => okE el (h.blk _ s H C cs fp) _ q5) (setI_of q6 _)) fun E σV H hh => ?_
        rw [b2]
        refine lc_ok (W := W) b3 ?_
        have : evE cl gc (.comp tg' it c el own) = fun σ S => (evI cl gc it σ S).bind fun ds S => compGo tg' (evC cl gc c) (evE cl gc el) (wipeD σ own) ds [] S := by
          funext σ S; rw [evE]
        rw [← this]
        refine tS.step (rel := Rep G) hh fun v σ d S r l s hd p => ?_
        rw [asgG] at p
        exact p _ r (Ext.refl r) l (s.set hd i)
      · cases q
    · rename_i hs
      rw [Bool.and_eq_true] at q
      exact s_asgC (okE e h _ q.2) (okG h tg _ q.1) (by rw [sw_eq hk', h.sc, hs]) (sw_none (.inl rfl) ql) q0
  · rename_i ts k p vs k2 p2
    split at q
    · rename_i hs
      rw [Bool.and_eq_true] at q
      exact s_asg (okE e h _ q.2) (okG h tg _ q.1) rfl (swT_ok hk' (by rw [h.sc]; exact hs)) q0
    · rename_i o hs
      unfold chkPar at q
      split at q
      · simp only [Bool.and_eq_true, decide_eq_true_eq] at q
        obtain ⟨⟨⟨⟨⟨⟨p1, p2⟩, p3⟩, p4⟩, p5⟩, p6⟩, p7⟩ := q
        refine PS.cast (s_par h.calm (by rw [h.hN]; exact h.nd) (by rw [h.hN]; exact p1) (by rw [h.hN]; exact p2) p3 (by rw [h.sc]; exact isLoc_of p4) (by rw [h.sc]; exact isLoc_of p5) (okEs _ h _ p6) (swT_ok hk' (by rw [h.sc]; exact p7))) fun σ S => by rw [evE] <;> rfl
      · simp only [Bool.and_eq_true, decide_eq_true_eq] at q
        obtain ⟨⟨⟨⟨⟨⟨⟨⟨⟨⟨p1, p2⟩, p2'⟩, p3⟩, p3'⟩, p3''⟩, p4⟩, p5⟩, p5'⟩, p6⟩, p7⟩ := q
        refine PS.cast (s_par3 h.calm (by rw [h.hN]; exact h.nd) (by rw [h.hN]; exact p1) (by rw [h.hN]; exact p2) (by rw [h.hN]; exact p2') p3 p3' p3'' (by rw [h.sc]; exact isLoc_of p4) (by rw [h.sc]; exact isLoc_of p5) (by rw [h.sc]; exact isLoc_of p5') (okEs _ h _ p6) (swT_ok hk' (by rw [h.sc]; exact p7))) fun σ S => by rw [evE] <;> rfl
      · cases q
    · cases q
  · simp only [Bool.and_eq_true, Bool.or_eq_true] at q
    obtain ⟨⟨⟨q1, q2⟩, q3⟩, q4⟩ := q
    exact s_asg (okE e h _ q4) (okG h tg _ q3) q1 (sw_none (q2.imp (fun z => by simpa using z) (fun z => by simpa using z)) ql) q0
mutual
theorem okS (h : XOk G Γ X W cl gc) (hk : Γ.sc.kind = .function) (hp : PassesOwn (model X.prog X.w) X.A X.env X.xe) : ∀ (s : DL.St) (x : Stmt), chkS s Γ x = true → PS X x (tS G W (evS cl gc s))
  | .pass, x, q => by
    unfold chkS at q
    split at q
    · exact PS.cast s_pass fun σ S => by rw [evS]
    · exact PS.cast s_doc fun σ S => by rw [evS]
    · cases q
  | .cont, x, q => by
    unfold chkS at q
    split at q
    · exact PS.cast s_cont fun σ S => by rw [evS]
    · cases q
  | .brk, x, q => by
    unfold chkS at q
    split at q
    · exact PS.cast s_brk fun σ S => by rw [evS]
    · cases q
  | .ret e, x, q => by
    unfold chkS at q
    split at q
    · exact PS.cast (s_ret (okE e h _ q)) fun σ S => by rw [evS]
    · cases q
  | .retN, x, q => by
    unfold chkS at q
    split at q
    · exact PS.cast s_retN fun σ S => by rw [evS]
    · cases q
  | .asg tg e, x, q => by
    unfold chkS at q
    split at q
    · exact PS.cast (okAsg h hk tg e q _) fun σ S => by rw [evS]
    · cases q
  | .app o e, x, q => by
    unfold chkS at q
    split at q
    · simp only [Bool.and_eq_true, decide_eq_true_eq] at q
      obtain ⟨⟨⟨⟨⟨rfl, q1⟩, q2⟩, q3⟩, q4⟩, q5⟩ := q
      exact PS.cast (s_app h.hK (okE o h _ q4) (okE e h _ q5) q2 (base_of q3) q1) fun σ S => by rw [evS] <;> rfl
    · cases q
  | .exp e, x, q => by
    unfold chkS at q
    split at q
    · rw [Bool.and_eq_true] at q
      exact PS.cast (s_exp (okE e h _ q.2) q.1) fun σ S => by rw [evS]
    · cases q
  | .ite t a b, x, q => by
    unfold chkS at q
    split at q
    · simp only [Bool.and_eq_true] at q
      exact PS.cast (s_if (okT t h _ q.1.1) (okB h hk hp a _ q.1.2) (okB h hk hp b _ q.2)) fun σ S => by rw [evS] <;> rfl
    · cases q
  | .wh t b, x, q => by
    unfold chkS at q
    split at q
    · simp only [Bool.and_eq_true] at q
      exact PS.cast (s_wh hp (okT t h _ q.1) (okB h hk hp b _ q.2) turns) fun σ S => by rw [evS]
    · cases q
  | .for_ tg it b, x, q => by
    unfold chkS at q
    split at q
    · simp only [Bool.and_eq_true] at q
      exact PS.cast (s_for hp h.calm (okI it h _ _ q.1.1.2) (okTg h tg _ q.1.1.1) (okB h hk hp b _ q.1.2) (setI_of q.2 _)) fun σ S => by rw [evS]
    · cases q
  | .never, x, q => PS.cast s_never fun σ S => by rw [evS]
theorem okB (h : XOk G Γ X W cl gc) (hk : Γ.sc.kind = .function) (hp : PassesOwn (model X.prog X.w) X.A X.env X.xe) : ∀ (ss : List DL.St) (xs : List Stmt), chkB ss Γ xs = true → PSs X xs (tS G W (evB cl gc ss))
  | [], xs, q => by
    unfold chkB at q
    split at q
    · exact PSs.cast ss_nil fun σ S => by rw [evB]
    · cases q
  | s :: ss, xs, q => by
    unfold chkB at q
    split at q
    · rw [Bool.and_eq_true] at q
      exact PSs.cast (ss_cons (okS h hk hp s _ q.1) (okB h hk hp ss _ q.2)) fun σ S => by rw [evB]
    · cases q
end
end
end DL
end
section
set_option Elab.async false
set_option autoImplicit false
set_option linter.all false
set_option maxRecDepth 100000
set_option maxHeartbeats 2000000
/-! DLo: defs. -/
namespace DL
open PySem PySem.Spec PyProof.Rows L2
section
variable {G : Glob} {r r' : RS} {S S' : Store} {W : WX}
/-- the changeable things beyond n let go -/
def RS.low (r : RS) (n : Nat) : RS := { r with mu := r.mu.take n }
mutual
theorem Rep.low {n : Nat} : ∀ {d : D} {v : V}, refsBelow n d = true → Rep G r d v → Rep G (r.low n) d v
  | _, _, _, .non => .non
  | _, _, _, .bl b => .bl b
  | _, _, _, .int i => .int i
  | _, _, _, .str x => .str x
  | _, _, h, .tup f hs => .tup f (Reps.low (by rw [refsBelow] at h; exact h) hs)
  | _, _, h, .lst f z hs => .lst f z (Reps.low (by rw [refsBelow] at h; exact h) hs)
  | .ref m, _, h, .ref q => .ref (by
      rw [refsBelow] at h
      have := Nat.le_of_ble_eq_true h
      show (r.mu.take n)[m]? = _
      rw [List.getElem?_take_of_lt (by omega)]; exact q)
  | _, _, _, .fn g => .fn g
  | _, _, _, .scr h => .scr h
  | _, _, _, .dic h z => .dic h z
  | _, _, _, .exn0 q e => .exn0 q e
  | _, _, h, .exn1 q e hd z hr => .exn1 q e hd z (Rep.low (by rw [refsBelow] at h; exact h) hr)
theorem Reps.low {n : Nat} : ∀ {ds : List D} {vs : List V}, refsBelows n ds = true → Reps G r ds vs → Reps G (r.low n) ds vs
  | _, _, _, .nil => .nil
  | _, _, h, .cons a b => by
    rw [refsBelows, Bool.and_eq_true] at h
    exact .cons (Rep.low h.1 a) (Reps.low h.2 b)
end
theorem trim_ok {d : D} (l : Rl G r S) (e : Ext r r') (l' : Rl G r' S') : ∃ r'', r''.H = r'.H ∧ Ext r r'' ∧ Rl G r'' (trim S.length d S') ∧ (∀ v, Rep G r' d v → Rep G r'' d v) ∧ ∀ (x : Exn) cls dd, x.arg = d → RepX G r' x cls dd → RepX G r'' x cls dd := by
  unfold trim
  split
  · exact ⟨r', rfl, e, l', fun _ h => h, fun _ _ _ _ h => h⟩
  split
  · rename_i h
    rw [Bool.and_eq_true, List.all_eq_true] at h
    refine ⟨r'.low S.length, rfl, ⟨⟨fun m a q => ?_, e.frz, e.nu⟩, fun a o q z n => ?_⟩, ⟨?_, ?_, fun a q => l'.inZ a (List.mem_of_mem_take q), l'.zH, fun m xs q => ?_⟩, fun v q => q.low h.1, fun x cls dd ex q => ?_⟩
    · show (r'.mu.take S.length)[m]? = some a
      have := (List.getElem?_eq_some_iff.mp q).1
      rw [List.getElem?_take_of_lt (by rw [← l.len]; exact this)]
      exact e.mu m a q
    · obtain ⟨b1, b2, b3⟩ := e.bld a o q z n
      exact ⟨b1, b2, fun k => b3 (List.mem_of_mem_take k)⟩
    · show (r'.mu.take S.length).length = (S'.take S.length).length
      rw [List.length_take, List.length_take, l'.len]
    · exact l'.nd.sublist (List.take_sublist _ _)
    · have hm : m < S.length := by
        have := (List.getElem?_eq_some_iff.mp q).1
        rw [List.length_take] at this; omega
      have q2 : S'[m]? = some xs := by rw [List.getElem?_take_of_lt hm] at q; exact q
      obtain ⟨a, vs, h1, h2, h3⟩ := l'.obj m xs q2
      refine ⟨a, vs, ?_, h2, h3.low (h.2 xs (List.mem_of_getElem? q))⟩
      show (r'.mu.take S.length)[m]? = some a
      rw [List.getElem?_take_of_lt hm]; exact h1
    · obtain ⟨q1, q2⟩ := q
      refine ⟨q1, ?_⟩
      rcases q2 with q2 | ⟨f, d', v, a, b, c, z, k⟩
      · exact .inl q2
      · exact .inr ⟨f, d', v, a, b, c, z, k.low (by rw [ex]; exact h.1)⟩
  · exact ⟨r', rfl, e, l', fun _ h => h, fun _ _ _ _ h => h⟩
/-- a body's end is the call's -/
theorem end_ok {E : XK} {Q : VK} (l : Rl G r S) {o : OutS} (p : Post G (Rep G) (fun c d _ H => E c d H) [] r (endOf S.length o) Q) : PostS G (fun c d _ H => E c d H) { nx := fun _ H' => Q .non H', rt := Q } r o := by
  cases o with
  | nx σ S1 =>
    intro σV r1 e1 l1 s1
    obtain ⟨r2, eH, e2, l2, k, _⟩ := trim_ok (d := .non) l e1 l1
    have := p .non r2 e2 l2 .non
    rw [eH] at this; exact this
  | ret d S1 =>
    intro v r1 e1 l1 h1
    obtain ⟨r2, eH, e2, l2, k, _⟩ := trim_ok (d := d) l e1 l1
    have := p v r2 e2 l2 (k v h1)
    rw [eH] at this; exact this
  | exc x σ S1 =>
    intro cls dd σV r1 e1 l1 s1 h1
    obtain ⟨r2, eH, e2, l2, _, k⟩ := trim_ok (d := x.arg) l e1 l1
    have := p cls dd r2 e2 l2 (k x cls dd rfl h1)
    show E cls dd r1.H
    rw [eH] at this; exact this
  | bk σ S1 => exact False.elim p
  | ct σ S1 => exact False.elim p
  | bad => exact False.elim p
theorem start_ok {ds : List D} {vs : List V} {N : List Str} {n : Nat} (h : Reps G r ds vs) (hn : N.length = n) : RSt G r (startD n ds) (L2.start N vs) := by
  unfold startD L2.start
  refine ⟨by simp [h.length, hn], fun i d q => ?_⟩
  by_cases hi : i < ds.length
  · rw [List.getElem?_append_left (by simpa using hi), List.getElem?_map] at q
    cases e : ds[i]? with
    | none => rw [e] at q; cases q
    | some d' =>
      rw [e] at q
      have q : some (some d') = some (some d) := q
      cases q
      obtain ⟨v, h1, h2⟩ := h.get e
      refine ⟨v, ?_, h2⟩
      rw [List.getElem?_append_left (by rw [List.length_map, ← h.length]; exact hi), List.getElem?_map, h1]; rfl
  · rw [List.getElem?_append_right (by simpa using hi), List.getElem?_replicate] at q
    split at q <;> cases q
end
structure Rowd where
  f : Fn
  d : He.DefD
  N : List Str
  ps : List Str
def kindF (sc : Scope) : Bool := match sc.kind with
  | .function => true
  | _ => false
def notFree : NameKind → Bool
  | .free => false
  | _ => true
def scopeB (N ps : List Str) (sc : Scope) : Bool := kindF sc && !sc.isCoroutine && !sc.isGenerator && decide N.Nodup && decide (N.take ps.length = ps) &&
  ps.all (fun x => match sc.names.lookup x with | some .local => true | some .cell => true | _ => false) && sc.names.all (fun y => notFree y.2)
theorem kind_of {sc : Scope} (h : kindF sc = true) : sc.kind = .function := by
  unfold kindF at h
  split at h
  · assumption
  · cases h
theorem scope_of {N ps : List Str} {sc : Scope} (h : scopeB N ps sc = true) : FnScope N ps sc := by
  unfold scopeB at h
  simp only [Bool.and_eq_true, List.all_eq_true, decide_eq_true_eq, Bool.not_eq_true'] at h
  obtain ⟨⟨⟨⟨⟨⟨h1, h2⟩, h3⟩, h4⟩, h5⟩, h6⟩, h7⟩ := h
  refine ⟨kind_of h1, h2, h3, h4, h5, fun x hx => ?_, fun y hy e => ?_⟩
  · have := h6 x hx
    split at this
    · exact .inl (by assumption)
    · exact .inr (by assumption)
    · cases this
  · have := h7 y hy
    rw [e] at this; cases this
def rowB (fns cons : List Str) (r : Rowd) : Bool := scopeB r.N r.ps r.d.scope && Nat.beq r.N.length r.f.sl && Nat.beq r.ps.length r.f.ar && chkB r.f.body ⟨r.N, r.d.scope, r.d.scope, fns, cons⟩ r.d.body
structure Setting (P : Program) (w : World) (K : PySem.W.Frag) (mg : Str → Option Value) (G : Glob) (rows : List Rowd) (fns cons : List Str) (gc : List D) : Prop where
  hK : G.K = K
  row : ∀ r ∈ rows, rowB fns cons r = true
  fn : ∀ (g : Nat) (r : Rowd), rows[g]? = some r → ∃ fd, FunD K r.d.name r.d.qual r.d.params r.d.body r.d.scope [] [] (G.fnA g) fd ∧ Binds K fd r.ps []
  names : ∀ (g : Nat) (x : Str), fns[g]? = some x → (∃ r, rows[g]? = some r) ∧ mg x = some (.ref (G.fnA g))
  cons : ∀ (k : Nat) (x : Str) (d : D), cons[k]? = some x → gc[k]? = some d → ∃ u v, mg x = some u ∧ RelV v u ∧ ∀ r, Rep G r d v
  blt : ∀ x ∈ bltNames, mg x = none
  dig : PySem.W.nsIn K cStatics "sys.int_max_str_digits" = some none
theorem run_len {fs : List Fn} {gc : List D} {k g : Nat} {ds : List D} {S : Store} {f : Fn} (hf : fs[g]? = some f) (h : run fs gc k g ds S ≠ .bad) : ds.length = f.ar := by
  cases k with
  | zero => exact absurd rfl h
  | succ k =>
    unfold run at h
    rw [hf] at h
    dsimp only at h
    split at h
    · rename_i e; exact Nat.eq_of_beq_eq_true e
    · exact absurd rfl h
theorem sp_len {G : Glob} {fs : List Fn} {gc : List D} {k g : Nat} {f : Fn} (hf : fs[g]? = some f) {vs : List V} {H : Hp} {Q : VK} {E : XK} (h : spD G (run fs gc k) g vs H Q E) : vs.length = f.ar := by
  obtain ⟨ds, S, r, e, l, hs, p⟩ := h
  rw [← hs.length]
  refine run_len hf (S := S) (k := k) (gc := gc) fun z => ?_
  rw [z] at p; exact p
theorem all_ok {P : Program} {w : World} {K : PySem.W.Frag} {mg : Str → Option Value} {base : Heap} {G : Glob} {rows : List Rowd} {fns cons : List Str} {gc : List D} (T : Setting P w K mg G rows fns cons gc) :
    ∀ (k g : Nat) (r : Rowd) (fd : FuncData), rows[g]? = some r → FunD K r.d.name r.d.qual r.d.params r.d.body r.d.scope [] [] (G.fnA g) fd → FnOk P w K mg base (L2.CX P w) k (G.fnA g) fd r.ps (spD G (run (rows.map (·.f)) gc k) g) := by
  intro k
  induction k with
  | zero =>
    intro g r fd hr F
    refine ⟨fun vs H Q E ⟨ds, S, r, e, l, hs, p⟩ => False.elim p, fun A outer s H args us vs Q E _ _ _ _ ⟨ds, S, r, e, l, hs, p⟩ => False.elim p⟩
  | succ k ih =>
    intro g r fd hr F
    have hf : (rows.map (·.f))[g]? = some r.f := by rw [List.getElem?_map, hr]; rfl
    have rb := T.row r (List.mem_of_getElem? hr)
    unfold rowB at rb
    simp only [Bool.and_eq_true] at rb
    obtain ⟨⟨⟨b1, b2⟩, b3⟩, b4⟩ := rb
    have hN := Nat.eq_of_beq_eq_true b2
    have hP := Nat.eq_of_beq_eq_true b3
    have sc := scope_of b1
    refine F.ok sc (fun vs H Q E h => ?_) (fun cdv A outer s H vs Q E hrm h => ?_)
    · rw [hP]; exact sp_len hf h
    · have hlen := sp_len hf h
      obtain ⟨ds, S, rs, e, l, hs, p⟩ := h
      refine ⟨tS G (fun c d _ H => E c d H) (evB (run (rows.map (·.f)) gc k) gc r.f.body), ?_, startD r.f.sl ds, S, rs, e, l, start_ok hs hN, ?_⟩
      · refine okB (Γ := ⟨r.N, r.d.scope, r.d.scope, fns, cons⟩) ⟨T.hK.symm, rfl, sc.nd, rfl, fun _ _ => rfl, rfl, ?_, T.dig, ?_, fun g' x hx => ?_, T.cons, T.blt⟩ sc.kind (passes_of rfl) _ _ b4
        · have := hrm.un
          show (A.deeper _).units + 64 < cLine
          omega
        · exact takes_of rfl rfl rfl rfl
        · obtain ⟨⟨r', hr'⟩, hm⟩ := T.names g' x hx
          obtain ⟨fd', F', hb'⟩ := T.fn g' r' hr'
          exact ⟨hm, F'.kp, k, fd', r'.ps, hrm, ih g' r' fd' hr' F', hb'⟩
      · refine end_ok l ?_
        have hb : Nat.beq ds.length r.f.ar = true := by
          rw [hs.length, hlen]; exact Nat.beq_refl _
        unfold run at p
        rw [hf] at p
        dsimp only at p
        rw [if_pos hb] at p
        exact p
end DL
end
section
set_option Elab.async false
set_option autoImplicit false
set_option linter.all false
set_option maxRecDepth 100000
set_option maxHeartbeats 2000000
/-! DLp: a law's end. -/
namespace DL
open PySem PySem.Spec PyProof.Rows L2
/-! ### constants -/
mutual
def dB (K : PySem.W.Frag) : D → Value → Bool
  | .non, u => (match u with | .none => true | _ => false)
  | .bl b, u => (match u with | .bool c => b == c | _ => false)
  | .int i, u => (match u with | .int j _ => decide (i = j) | _ => false)
  | .str x, u => (match u with | .str y _ => decide (y = txt x) | _ => false)
  | .tup ds, u => (match u with | .ref T => (match K.lookup T with | some ⟨.type c, _, .seq its _, _⟩ => decide (c = "tuple") && decide (its.size ≤ sizeLine) && dsB K ds its.toList | _ => false) | _ => false)
  | .lst _, _ => false
  | .ref _, _ => false
  | .fn _, _ => false
  | .exn _ _, _ => false
  | .scr _, _ => false
  | .dic, _ => false
def dsB (K : PySem.W.Frag) : List D → List Value → Bool
  | [], us => (match us with | [] => true | _ => false)
  | d :: ds, us => (match us with | u :: us => dB K d u && dsB K ds us | _ => false)
end
mutual
theorem dB_ok {G : Glob} : ∀ {d : D} {u : Value}, dB G.K d u = true → ∃ v, RelV v u ∧ ∀ r, Rep G r d v
  | .non, u, h => by
    unfold dB at h
    split at h
    · exact ⟨.non, rfl, fun _ => .non⟩
    · cases h
  | .bl b, u, h => by
    unfold dB at h
    split at h
    · have := eq_of_beq h; subst this; exact ⟨.bl _, rfl, fun _ => .bl _⟩
    · cases h
  | .int i, u, h => by
    unfold dB at h
    split at h
    · have := of_decide_eq_true h; subst this; exact ⟨.int _, ⟨_, rfl⟩, fun _ => .int _⟩
    · cases h
  | .str x, u, h => by
    unfold dB at h
    split at h
    · have := of_decide_eq_true h; subst this; exact ⟨.str _, ⟨_, rfl⟩, fun _ => .str _⟩
    · cases h
  | .tup ds, u, h => by
    cases u with
    | ref T =>
      have h : (match G.K.lookup T with | some ⟨.type c, _, .seq its _, _⟩ => decide (c = "tuple") && decide (its.size ≤ sizeLine) && dsB G.K ds its.toList | _ => false) = true := by
        unfold dB at h; exact h
      split at h
      · rename_i c od its n sl e
        simp only [Bool.and_eq_true, decide_eq_true_eq] at h
        obtain ⟨⟨rfl, h2⟩, h3⟩ := h
        obtain ⟨vs, h4, h5⟩ := dsB_ok h3
        exact ⟨.ref T, rfl, fun r => .tup (.inr ⟨_, its, n, e, rfl, rfl, h2, h4⟩) (h5 r)⟩
      · cases h
    | _ => unfold dB at h; cases h
  | .lst _, u, h => by unfold dB at h; cases h
  | .ref _, u, h => by unfold dB at h; cases h
  | .fn _, u, h => by unfold dB at h; cases h
  | .exn _ _, u, h => by unfold dB at h; cases h
  | .scr _, u, h => by unfold dB at h; cases h
  | .dic, u, h => by unfold dB at h; cases h
theorem dsB_ok {G : Glob} : ∀ {ds : List D} {us : List Value}, dsB G.K ds us = true → ∃ vs, Vals vs us ∧ ∀ r, Reps G r ds vs
  | [], us, h => by
    unfold dsB at h
    split at h
    · exact ⟨[], .nil, fun _ => .nil⟩
    · cases h
  | d :: ds, us, h => by
    unfold dsB at h
    split at h
    · rw [Bool.and_eq_true] at h
      obtain ⟨v, h1, h2⟩ := dB_ok h.1
      obtain ⟨vs, h3, h4⟩ := dsB_ok h.2
      exact ⟨v :: vs, .cons h1 h3, fun r => .cons (h2 r) (h4 r)⟩
    · cases h
end
def conB (cons : List Str) (gc : List D) (K : PySem.W.Frag) : Bool := (cons.zip gc).all fun p => match PySem.W.nsIn K mainGlobals p.1 with
  | some (some u) => dB K p.2 u
  | _ => false
/-! ### the facts of the head -/
/-- the written part: what is reached from the module's names, and the statics -/
def frD (n : Nat) (g : Addr → Option Obj) : PySem.W.Frag := He.frG g (cStatics :: He.asD g n)
/-- what the hook looks at -/
def obsL (n : Nat) (fa : List He.Fa) (fn : List He.DefD) (ex : PySem.W.Frag → Bool) (g : Addr → Option Obj) : He.AlD × Bool := (He.obsD fa fn (frD n g), ex (frD n g))
structure SaysL (fa : List He.Fa) (fn : List He.DefD) (ex : PySem.W.Frag → Bool) (K : PySem.W.Frag) : Prop where
  d : He.SaysD fa fn K
  more : ex K = true
def hookL (n : Nat) (fa : List He.Fa) (fn : List He.DefD) (ex : PySem.W.Frag → Bool) : PySem.W.Hook where
  α := He.AlD × Bool
  obs := fun s => obsL n fa fn ex s.heap.get?
  val := fun _ => (He.valD fn, true)
  says := fun _ h => ∃ K : PySem.W.Frag, K.In h ∧ SaysL fa fn ex K
  of := fun _ _ e => ⟨_, He.frG_in, ⟨congrArg (fun z : He.AlD × Bool => z.1) e, congrArg (fun z : He.AlD × Bool => z.2) e⟩⟩
  keeps := fun _ _ _ ⟨K, hK, c⟩ k => ⟨K, PySem.W.Frag.In.keeps hK k, c⟩
theorem obsL_eq {n : Nat} {fa : List He.Fa} {fn : List He.DefD} {ex : PySem.W.Frag → Bool} {g : Addr → Option Obj} {s : Shared} (h : ∀ a, g a = s.heap.get? a) : obsL n fa fn ex g = (hookL n fa fn ex).obs s := by
  have e : g = s.heap.get? := funext h
  rw [e] <;> rfl
def digB (K : PySem.W.Frag) : Bool := decide (PySem.W.nsIn K cStatics "sys.int_max_str_digits" = some none)
def exB (cons : List Str) (gc : List D) (K : PySem.W.Frag) : Bool := digB K && conB cons gc K
def faOf (rows : List Rowd) : List He.Fa := rows.map (fun r => .glo r.d.at_.1) ++ bltNames.map .free
def BndOk (r : Rowd) : Prop := ∀ (kV doc pm : Value) (an : Option Addr) (cdv ct : Value) (us : List Value), us.length = r.ps.length → bindArgs (PySem.W.fnOf r.d.name r.d.qual r.d.params r.d.body r.d.scope .none kV doc pm an cdv ct) ⟨us, []⟩ = pure (r.ps.zip us)
def plainD (r : Rowd) : Bool := (match r.d.at_.2 with | none => true | _ => false) && r.d.dfl.isEmpty && r.d.kwd.isEmpty
def globOf (rows : List Rowd) (K : PySem.W.Frag) : Glob := ⟨K, fun g => match rows[g]? with | some r => He.fAd K r.d.at_ | none => 0, fun _ => 0, fun _ => none⟩
theorem setting_of {P : Program} {w : World} {K : PySem.W.Frag} {h : Heap} {mg : Str → Option Value} {rows : List Rowd} {cons : List Str} {gc : List D} (X : K.In h) (G : h.Ns mainGlobals mg)
    (hp : rows.all plainD = true) (hb : ∀ r ∈ rows, BndOk r) (hr : rows.all (rowB (rows.map (·.d.at_.1)) cons) = true) (c : SaysL (faOf rows) (rows.map (·.d)) (exB cons gc) K) :
    Setting P w K mg (globOf rows K) rows (rows.map (·.d.at_.1)) cons gc := by
  have cd : He.SaysD (faOf rows) (rows.map (·.d)) K := c.d
  have cm := c.more
  unfold exB at cm
  rw [Bool.and_eq_true] at cm
  rw [List.all_eq_true] at hp hr
  refine ⟨rfl, hr, fun g r e => ?_, fun g x e => ?_, fun k x d e1 e2 => ?_, fun x hx => ?_, of_decide_eq_true cm.1⟩
  · have hm := List.mem_of_getElem? e
    have pl := hp r hm
    unfold plainD at pl
    simp only [Bool.and_eq_true, decide_eq_true_eq, List.isEmpty_iff] at pl
    obtain ⟨fd, F⟩ := cd.defs (d := r.d) (List.mem_map_of_mem hm)
    have e1 : r.d.dvs K = [] := by unfold He.DefD.dvs; rw [pl.1.2]; rfl
    have e2 : r.d.kws K = [] := by unfold He.DefD.kws; rw [pl.2]; rfl
    rw [e1, e2] at F
    have ea : (globOf rows K).fnA g = He.fAd K r.d.at_ := by
      show (match rows[g]? with | some r => He.fAd K r.d.at_ | none => 0) = _
      rw [e]
    rw [ea]
    exact ⟨fd, F, F.bindsN (hb r hm)⟩
  · rw [List.getElem?_map] at e
    cases e1 : rows[g]? with
    | none => rw [e1] at e; cases e
    | some r =>
      rw [e1] at e
      have e : some r.d.at_.1 = some x := e
      cases e
      have hm := List.mem_of_getElem? e1
      have pl := hp r hm
      unfold plainD at pl
      simp only [Bool.and_eq_true, decide_eq_true_eq] at pl
      refine ⟨⟨r, rfl⟩, ?_⟩
      have ea : (globOf rows K).fnA g = He.fAd K r.d.at_ := by
        show (match rows[g]? with | some r => He.fAd K r.d.at_ | none => 0) = _
        rw [e1]
      rw [ea]
      have e3 : He.fAd K r.d.at_ = He.ga K r.d.at_.1 := by
        have p1 := pl.1.1
        cases q : r.d.at_ with
        | mk a b =>
          rw [q] at p1
          cases b with
          | none => rfl
          | some _ => cases p1
      rw [e3]
      exact He.glo_ok X G (cd.facts (List.mem_append_left _ (List.mem_map_of_mem (f := fun r : Rowd => He.Fa.glo r.d.at_.1) hm)))
  · have m := cm.2
    unfold conB at m
    rw [List.all_eq_true] at m
    have hz : (x, d) ∈ cons.zip gc := by
      apply List.mem_of_getElem? (i := k)
      rw [List.getElem?_zip_eq_some]
      exact ⟨e1, e2⟩
    have := m _ hz
    dsimp only at this
    split at this
    · rename_i u e
      obtain ⟨v, h1, h2⟩ := dB_ok (G := globOf rows K) this
      exact ⟨u, v, PySem.W.mg_of X G e, h1, h2⟩
    · cases this
  · exact He.free_ok X G (cd.facts (List.mem_append_right _ (List.mem_map_of_mem hx)))
/-- the law's promise -/
theorem law_F {P : Program} {w : World} {K : PySem.W.Frag} {h : Heap} {mg : Str → Option Value} {fa : Addr} {rows : List Rowd} {cons : List Str} {gc : List D} {g k n : Nat} {r : Rowd} {x : Str} (X : K.In h) (G : h.Ns mainGlobals mg)
    (hp : rows.all plainD = true) (hb : ∀ r ∈ rows, BndOk r) (hr : rows.all (rowB (rows.map (·.d.at_.1)) cons) = true) (hg : rows[g]? = some r) (hps : r.ps = [x]) (hmg : mg r.d.at_.1 = some (.ref fa))
    (hpure : ∀ ns : List Int, ns.length ≤ n → ∃ S, run (rows.map (·.f)) gc k g [.scr ns] [] = .ok (.bl true) S)
    (c : SaysL (faOf rows) (rows.map (·.d)) (exB cons gc) K) :
    ∃ (K : PySem.W.Frag) (fd : FuncData) (sp : Sp), K.In h ∧ (∀ (s : Shared) (u : Value), BindsTo s fd ⟨[u], []⟩ [(x, u)]) ∧
        (∀ (H : Hp) (a : Addr) (ns : List Int), ns.length ≤ n → Only H → SqL K H a (ns.map V.int) → sp [.ref a] H (fun v _ => v = .bl true) fun _ _ _ => False) ∧
        ∀ base : Heap, K.In base → base.Ns mainGlobals mg → FnOk P w K mg base (L2.CX P w) k fa fd [x] sp := by
  have T : Setting P w K mg (globOf rows K) rows (rows.map (·.d.at_.1)) cons gc := setting_of X G hp hb hr c
  obtain ⟨fd, F, B⟩ := T.fn g r hg
  obtain ⟨_, hn⟩ := T.names g r.d.at_.1 (by rw [List.getElem?_map, hg]; rfl)
  rw [hmg] at hn
  have ea : fa = (globOf rows K).fnA g := by injection hn with hn; injection hn
  refine ⟨K, fd, spD (globOf rows K) (run (rows.map (·.f)) gc k) g, X, fun s u => ?_, fun H a ns hl hO hS => ?_, fun base _ _ => ?_⟩
  · have := F.bindsA (hb r (List.mem_of_getElem? hg)) s [u] (by rw [hps]; rfl)
    rw [hps] at this
    exact this
  · obtain ⟨S, e⟩ := hpure ns hl
    refine ⟨[.scr ns], [], ⟨H, [], fun _ => False, fun _ => none⟩, rfl, ⟨rfl, List.nodup_nil, fun a h => absurd h (by simp), fun _ h => h.elim, fun n xs h => by simp at h⟩, .cons (.scr ?_) .nil, ?_⟩
    · rcases hS with hS | hS
      · exact .inl ⟨hS, fun h => h⟩
      · exact .inr hS
    · rw [e]
      intro b r' _ _ h
      cases h
      rfl
  · rw [ea, ← hps]
    exact all_ok T k g r fd hg F
theorem cx_end {P : Program} {w : World} (H : Hp) (s : Shared) (e : Value) (s' : Shared) : L2.CX P w [] H s (fun _ _ _ => False) e s' → False := fun ⟨_, _, _, _, _, h⟩ => h.2.2.2.2.2.2.2
/-- a law's end -/
theorem law_end {l : PySem.W.OpenLaw} {n k g : Nat} {q : Program} {loose : List Str} {XP : (Str → Option Value) → Heap → Prop} {d : DefRec} {x : Str} {rows : List Rowd} {cons : List Str} {gc : List D} {r : Rowd} {m : Nat}
    (hn : l.most = some n) (hn2 : n ≤ sizeLine) (hdf : d.params.defaults = []) (hr : Room k callerA) (hd : d.name = r.d.at_.1)
    (hp : rows.all plainD = true) (hb : ∀ r ∈ rows, BndOk r) (hk : rows.all (rowB (rows.map (·.d.at_.1)) cons) = true) (hg : rows[g]? = some r) (hps : r.ps = [x])
    (hpure : ∀ ns : List Int, ns.length ≤ n → ∃ S, run (rows.map (·.f)) gc k g [.scr ns] [] = .ok (.bl true) S) :
    PySem.W.WalkO q loose XP (hookL m (faOf rows) (rows.map (·.d)) (exB cons gc)).says l.row.toRowW d [] (fun f vs => PySem.call f vs) := by
  refine Att.attach_call hn hdf fun w s₀ s₁ mg mb fa o pm cd doc a vs ns G Y ho hdt hcd hmg hobj hints hlen hgen => ?_
  obtain ⟨K, KX, c⟩ := Y
  obtain ⟨K', fd, sp, KX', hbn, hsp, hF⟩ := law_F (P := l.prog) (w := w) KX G.T.g hp hb hk hg hps (by rw [← hd]; exact hmg) hpure c
  exact law_call KX' G.T.g G.T.b G.T.builtins G.T.nolimit hgen hobj hints (Nat.le_trans hlen hn2) hr hF hbn (fun H hO hS => hsp H a ns hlen hO hS) fun H e s' => cx_end H s₁ e s'
end DL
end
section
set_option Elab.async false
set_option autoImplicit false
set_option linter.all false
set_option maxRecDepth 100000
set_option maxHeartbeats 2000000
/-! P0: rules for the evaluator. -/
namespace DL
section
variable {cl : Cl} {gc : List D} {σ : Env} {S : Store}
@[simp] theorem x_bind {α β : Type} (a : α) (S : Store) (f : α → Store → Out β) : (Out.ok a S).bind f = f a S := Eq.trans rfl rfl
@[simp] theorem x_stm {α : Type} (a : α) (S : Store) (f : α → Store → OutS) : (Out.ok a S).stm σ f = f a S := Eq.trans rfl rfl
@[simp] theorem x_then (σ : Env) (S : Store) (f : Env → Store → OutS) : (OutS.nx σ S).andThen f = f σ S := Eq.trans rfl rfl
@[simp] theorem x_thenR (d : D) (S : Store) (f : Env → Store → OutS) : (OutS.ret d S).andThen f = .ret d S := Eq.trans rfl rfl
@[simp] theorem x_thenB (σ : Env) (S : Store) (f : Env → Store → OutS) : (OutS.bk σ S).andThen f = .bk σ S := Eq.trans rfl rfl
@[simp] theorem x_thenC (σ : Env) (S : Store) (f : Env → Store → OutS) : (OutS.ct σ S).andThen f = .ct σ S := Eq.trans rfl rfl
@[simp] theorem x_slot (i : Nat) : evE cl gc (.slot i) σ S = (match σ[i]? with | some (some d) => .ok d S | _ => .bad) := by rw [evE] <;> rfl
@[simp] theorem x_con (d : D) : evE cl gc (.con d) σ S = .ok d S := by rw [evE]
@[simp] theorem x_gcon (k : Nat) : evE cl gc (.gcon k) σ S = (match gc[k]? with | some d => .ok d S | none => .bad) := by rw [evE] <;> rfl
@[simp] theorem x_tup (es : List E) : evE cl gc (.tup es) σ S = (evEs cl gc es σ S).bind fun ds S => if fits ds.length then .ok (.tup ds) S else .bad := by rw [evE]
@[simp] theorem x_lst (es : List E) : evE cl gc (.lst es) σ S = (evEs cl gc es σ S).bind fun ds S => if fits ds.length then .ok (.lst ds) S else .bad := by rw [evE]
@[simp] theorem x_new (es : List E) : evE cl gc (.new es) σ S = (evEs cl gc es σ S).bind fun ds S => if fits ds.length then .ok (.ref S.length) (S ++ [ds]) else .bad := by rw [evE]
@[simp] theorem x_dict0 : evE cl gc .dict0 σ S = .ok .dic S := by rw [evE]
@[simp] theorem x_bin (o : Op) (a b : E) : evE cl gc (.bin o a b) σ S = (evE cl gc a σ S).bind fun x S => (evE cl gc b σ S).bind fun y S => op2 o x y S := by rw [evE]
@[simp] theorem x_neg (a : E) : evE cl gc (.neg a) σ S = (evE cl gc a σ S).bind fun x S => match x with | .int i => .ok (.int (-i)) S | _ => .bad := by rw [evE] <;> rfl
@[simp] theorem x_cmp (o : Cp) (a b : E) : evE cl gc (.cmp o a b) σ S = (evE cl gc a σ S).bind fun x S => (evE cl gc b σ S).bind fun y S => (cmp2 o x y S).bind fun k S => .ok (.bl k) S := by rw [evE]
@[simp] theorem x_chain (o p : Cp) (a b c : E) : evE cl gc (.chain o p a b c) σ S = (evE cl gc a σ S).bind fun x S => (evE cl gc b σ S).bind fun y S => (cmp2 o x y S).bind fun k S => match k with | true => (evE cl gc c σ S).bind fun z S => (cmp2 p y z S).bind fun k S => .ok (.bl k) S | false => .ok (.bl false) S := by rw [evE] <;> rfl
@[simp] theorem x_notE (a : E) : evE cl gc (.notE a) σ S = (evE cl gc a σ S).bind fun x S => (truth x S).bind fun b S => .ok (.bl (!b)) S := by rw [evE]
@[simp] theorem x_ite (t : T) (a b : E) : evE cl gc (.ite t a b) σ S = (evT cl gc t σ S).bind fun c S => match c with | true => evE cl gc a σ S | false => evE cl gc b σ S := by rw [evE] <;> rfl
@[simp] theorem x_and (a b : E) : evE cl gc (.and a b) σ S = (evE cl gc a σ S).bind fun x S => (truth x S).bind fun c S => match c with | true => evE cl gc b σ S | false => .ok x S := by rw [evE] <;> rfl
@[simp] theorem x_or (a b : E) : evE cl gc (.or a b) σ S = (evE cl gc a σ S).bind fun x S => (truth x S).bind fun c S => match c with | true => .ok x S | false => evE cl gc b σ S := by rw [evE] <;> rfl
@[simp] theorem x_idx (a i : E) : evE cl gc (.idx a i) σ S = (evE cl gc a σ S).bind fun x S => (evE cl gc i σ S).bind fun y S => item x y S := by rw [evE]
@[simp] theorem x_slc (a : E) (lo hi : Option E) : evE cl gc (.slc a lo hi) σ S = (evE cl gc a σ S).bind fun x S => (evO cl gc lo σ S).bind fun l S => (evO cl gc hi σ S).bind fun h S => slice x l h S := by rw [evE]
@[simp] theorem x_rev (a : E) : evE cl gc (.rev a) σ S = (evE cl gc a σ S).bind fun x S => revd x S := by rw [evE]
@[simp] theorem x_call (g : Nat) (es : List E) : evE cl gc (.call g es) σ S = (evEs cl gc es σ S).bind fun ds S => cl g ds S := by rw [evE]
@[simp] theorem x_bi (b : Bi) (es : List E) : evE cl gc (.bi b es) σ S = (evEs cl gc es σ S).bind fun ds S => bi b ds S := by rw [evE]
@[simp] theorem x_join (o e : E) : evE cl gc (.join o e) σ S = (evE cl gc o σ S).bind fun x S => match x with | .str sep => (evE cl gc e σ S).bind fun d S => mth .join (.str sep) [d] S | _ => .bad := by rw [evE] <;> rfl
@[simp] theorem x_comp (tg : Tg) (it : I) (c : Option T) (e : E) (own : List Nat) : evE cl gc (.comp tg it c e own) σ S = (evI cl gc it σ S).bind fun ds S => compGo tg (evC cl gc c) (evE cl gc e) (wipeD σ own) ds [] S := by rw [evE]
@[simp] theorem x_c0 : evC cl gc none σ S = .ok true S := by rw [evC]
@[simp] theorem x_c1 (t : T) : evC cl gc (some t) σ S = evT cl gc t σ S := by rw [evC]
@[simp] theorem x_o0 : evO cl gc none σ S = .ok none S := by rw [evO]
@[simp] theorem x_o1 (e : E) : evO cl gc (some e) σ S = (evE cl gc e σ S).bind fun x S => match x with | .int i => .ok (some i) S | _ => .bad := by rw [evO] <;> rfl
@[simp] theorem x_es0 : evEs cl gc [] σ S = .ok [] S := by rw [evEs]
@[simp] theorem x_esS (e : E) (es : List E) : evEs cl gc (.star e :: es) σ S = (evE cl gc e σ S).bind fun d S => (match seqOf d S with | some xs => (evEs cl gc es σ S).bind fun ds S => .ok (xs ++ ds) S | none => .bad) := by rw [evEs] <;> rfl
theorem x_es (e : E) (es : List E) (h : ∀ z, e = .star z → False) : evEs cl gc (e :: es) σ S = (evE cl gc e σ S).bind fun d S => (evEs cl gc es σ S).bind fun ds S => .ok (d :: ds) S := by rw [evEs]; exact h
@[simp] theorem x_es1 (i : Nat) (es : List E) : evEs cl gc (.slot i :: es) σ S = (evE cl gc (.slot i) σ S).bind fun d S => (evEs cl gc es σ S).bind fun ds S => .ok (d :: ds) S := x_es _ _ (by intro z h; cases h)
@[simp] theorem x_es2 (i : D) (es : List E) : evEs cl gc (.con i :: es) σ S = (evE cl gc (.con i) σ S).bind fun d S => (evEs cl gc es σ S).bind fun ds S => .ok (d :: ds) S := x_es _ _ (by intro z h; cases h)
@[simp] theorem x_es3 (i : Nat) (es : List E) : evEs cl gc (.gcon i :: es) σ S = (evE cl gc (.gcon i) σ S).bind fun d S => (evEs cl gc es σ S).bind fun ds S => .ok (d :: ds) S := x_es _ _ (by intro z h; cases h)
@[simp] theorem x_es4 (i : List E) (es : List E) : evEs cl gc (.tup i :: es) σ S = (evE cl gc (.tup i) σ S).bind fun d S => (evEs cl gc es σ S).bind fun ds S => .ok (d :: ds) S := x_es _ _ (by intro z h; cases h)
@[simp] theorem x_es5 (i : List E) (es : List E) : evEs cl gc (.lst i :: es) σ S = (evE cl gc (.lst i) σ S).bind fun d S => (evEs cl gc es σ S).bind fun ds S => .ok (d :: ds) S := x_es _ _ (by intro z h; cases h)
@[simp] theorem x_es6 (i : List E) (es : List E) : evEs cl gc (.new i :: es) σ S = (evE cl gc (.new i) σ S).bind fun d S => (evEs cl gc es σ S).bind fun ds S => .ok (d :: ds) S := x_es _ _ (by intro z h; cases h)
@[simp] theorem x_es7 (o : Op) (a b : E) (es : List E) : evEs cl gc (.bin o a b :: es) σ S = (evE cl gc (.bin o a b) σ S).bind fun d S => (evEs cl gc es σ S).bind fun ds S => .ok (d :: ds) S := x_es _ _ (by intro z h; cases h)
@[simp] theorem x_es8 (a : E) (es : List E) : evEs cl gc (.neg a :: es) σ S = (evE cl gc (.neg a) σ S).bind fun d S => (evEs cl gc es σ S).bind fun ds S => .ok (d :: ds) S := x_es _ _ (by intro z h; cases h)
@[simp] theorem x_es9 (o : Cp) (a b : E) (es : List E) : evEs cl gc (.cmp o a b :: es) σ S = (evE cl gc (.cmp o a b) σ S).bind fun d S => (evEs cl gc es σ S).bind fun ds S => .ok (d :: ds) S := x_es _ _ (by intro z h; cases h)
@[simp] theorem x_es10 (t : T) (a b : E) (es : List E) : evEs cl gc (.ite t a b :: es) σ S = (evE cl gc (.ite t a b) σ S).bind fun d S => (evEs cl gc es σ S).bind fun ds S => .ok (d :: ds) S := x_es _ _ (by intro z h; cases h)
@[simp] theorem x_es11 (a b : E) (es : List E) : evEs cl gc (.idx a b :: es) σ S = (evE cl gc (.idx a b) σ S).bind fun d S => (evEs cl gc es σ S).bind fun ds S => .ok (d :: ds) S := x_es _ _ (by intro z h; cases h)
@[simp] theorem x_es12 (a : E) (lo hi : Option E) (es : List E) : evEs cl gc (.slc a lo hi :: es) σ S = (evE cl gc (.slc a lo hi) σ S).bind fun d S => (evEs cl gc es σ S).bind fun ds S => .ok (d :: ds) S := x_es _ _ (by intro z h; cases h)
@[simp] theorem x_es13 (a : E) (es : List E) : evEs cl gc (.rev a :: es) σ S = (evE cl gc (.rev a) σ S).bind fun d S => (evEs cl gc es σ S).bind fun ds S => .ok (d :: ds) S := x_es _ _ (by intro z h; cases h)
@[simp] theorem x_es14 (g : Nat) (a es : List E) : evEs cl gc (.call g a :: es) σ S = (evE cl gc (.call g a) σ S).bind fun d S => (evEs cl gc es σ S).bind fun ds S => .ok (d :: ds) S := x_es _ _ (by intro z h; cases h)
@[simp] theorem x_es15 (b : Bi) (a es : List E) : evEs cl gc (.bi b a :: es) σ S = (evE cl gc (.bi b a) σ S).bind fun d S => (evEs cl gc es σ S).bind fun ds S => .ok (d :: ds) S := x_es _ _ (by intro z h; cases h)
@[simp] theorem x_es16 (tg : Tg) (it : I) (c : Option T) (e : E) (own : List Nat) (es : List E) : evEs cl gc (.comp tg it c e own :: es) σ S = (evE cl gc (.comp tg it c e own) σ S).bind fun d S => (evEs cl gc es σ S).bind fun ds S => .ok (d :: ds) S := x_es _ _ (by intro z h; cases h)
@[simp] theorem x_es17 (es : List E) : evEs cl gc (.dict0 :: es) σ S = (evE cl gc .dict0 σ S).bind fun d S => (evEs cl gc es σ S).bind fun ds S => .ok (d :: ds) S := x_es _ _ (by intro z h; cases h)
@[simp] theorem x_es18 (a : E) (es : List E) : evEs cl gc (.notE a :: es) σ S = (evE cl gc (.notE a) σ S).bind fun d S => (evEs cl gc es σ S).bind fun ds S => .ok (d :: ds) S := x_es _ _ (by intro z h; cases h)
@[simp] theorem x_es19 (a b : E) (es : List E) : evEs cl gc (.and a b :: es) σ S = (evE cl gc (.and a b) σ S).bind fun d S => (evEs cl gc es σ S).bind fun ds S => .ok (d :: ds) S := x_es _ _ (by intro z h; cases h)
@[simp] theorem x_es20 (a b : E) (es : List E) : evEs cl gc (.or a b :: es) σ S = (evE cl gc (.or a b) σ S).bind fun d S => (evEs cl gc es σ S).bind fun ds S => .ok (d :: ds) S := x_es _ _ (by intro z h; cases h)
@[simp] theorem x_tnot (t : T) : evT cl gc (.not t) σ S = (evT cl gc t σ S).bind fun b S => .ok (!b) S := by rw [evT]
@[simp] theorem x_tand (t u : T) : evT cl gc (.and t u) σ S = (evT cl gc t σ S).bind fun b S => match b with | true => evT cl gc u σ S | false => .ok false S := by rw [evT] <;> rfl
@[simp] theorem x_tor (t u : T) : evT cl gc (.or t u) σ S = (evT cl gc t σ S).bind fun b S => match b with | true => .ok true S | false => evT cl gc u σ S := by rw [evT] <;> rfl
@[simp] theorem x_tcmp (o : Cp) (a b : E) : evT cl gc (.cmp o a b) σ S = (evE cl gc a σ S).bind fun x S => (evE cl gc b σ S).bind fun y S => cmp2 o x y S := by rw [evT]
@[simp] theorem x_tchain (o p : Cp) (a b c : E) : evT cl gc (.chain o p a b c) σ S = (evE cl gc a σ S).bind fun x S => (evE cl gc b σ S).bind fun y S => (cmp2 o x y S).bind fun k S => match k with | true => (evE cl gc c σ S).bind fun z S => cmp2 p y z S | false => .ok false S := by rw [evT] <;> rfl
@[simp] theorem x_tval (e : E) : evT cl gc (.val e) σ S = (evE cl gc e σ S).bind fun x S => truth x S := by rw [evT]
@[simp] theorem x_iseq (e : E) : evI cl gc (.seq e) σ S = (evE cl gc e σ S).bind fun x S => oItems (walk x S) S := by rw [evI]
@[simp] theorem x_irng1 (a : E) : evI cl gc (.rng1 a) σ S = (evE cl gc a σ S).bind fun x S => rng2 (.int 0) x S := by rw [evI]
@[simp] theorem x_irng2 (a b : E) : evI cl gc (.rng2 a b) σ S = (evE cl gc a σ S).bind fun x S => (evE cl gc b σ S).bind fun y S => rng2 x y S := by rw [evI]
@[simp] theorem x_izip (a b : E) : evI cl gc (.zip a b) σ S = (evE cl gc a σ S).bind fun x S => (evE cl gc b σ S).bind fun y S => oItems (zipOf x y) S := by rw [evI]
@[simp] theorem x_ienum (a : E) : evI cl gc (.enum a) σ S = (evE cl gc a σ S).bind fun x S => oItems ((listOf x).map (enumD 0)) S := by rw [evI]
@[simp] theorem x_gnm (i : Nat) (d : D) : asgG cl gc (.nm i) d σ S = .nx (σ.set i (some d)) S := by rw [asgG]
@[simp] theorem x_gtp (ts : List Tg) (ds : List D) : asgG cl gc (.tp ts) (.tup ds) σ S = if Nat.beq ds.length ts.length then asgsG cl gc ts ds σ S else .bad := by rw [asgG]
@[simp] theorem x_gsub (o i : E) (v : D) : asgG cl gc (.sub o i) v σ S = (evE cl gc o σ S).stm σ fun x S => (evE cl gc i σ S).stm σ fun k S => match setIt x k v S with | some S2 => .nx σ S2 | none => .bad := by rw [asgG] <;> rfl
@[simp] theorem x_gs0 : asgsG cl gc [] [] σ S = .nx σ S := by rw [asgsG]
@[simp] theorem x_gs1 (t : Tg) (ts : List Tg) (d : D) (ds : List D) : asgsG cl gc (t :: ts) (d :: ds) σ S = (asgG cl gc t d σ S).andThen (asgsG cl gc ts ds) := by rw [asgsG]
@[simp] theorem x_ret (e : E) : evS cl gc (.ret e) σ S = (evE cl gc e σ S).stm σ fun d S => .ret d S := by rw [evS]
@[simp] theorem x_retN : evS cl gc .retN σ S = .ret .non S := by rw [evS]
@[simp] theorem x_pass : evS cl gc .pass σ S = .nx σ S := by rw [evS]
@[simp] theorem x_asg (tg : Tg) (e : E) : evS cl gc (.asg tg e) σ S = (evE cl gc e σ S).stm σ fun d S => asgG cl gc tg d σ S := by rw [evS]
@[simp] theorem x_exp (e : E) : evS cl gc (.exp e) σ S = (evE cl gc e σ S).stm σ fun _ S => .nx σ S := by rw [evS]
@[simp] theorem x_iteS (t : T) (a b : List St) : evS cl gc (.ite t a b) σ S = (evT cl gc t σ S).stm σ fun c S => match c with | true => evB cl gc a σ S | false => evB cl gc b σ S := by rw [evS] <;> rfl
@[simp] theorem x_wh (t : T) (b : List St) : evS cl gc (.wh t b) σ S = whGo (evT cl gc t) (evB cl gc b) turns σ S := by rw [evS]
@[simp] theorem x_for (tg : Tg) (it : I) (b : List St) : evS cl gc (.for_ tg it b) σ S = (evI cl gc it σ S).stm σ fun ds S => forGo tg (evB cl gc b) ds σ S := by rw [evS]
@[simp] theorem x_b0 : evB cl gc [] σ S = .nx σ S := by rw [evB]
@[simp] theorem x_b1 (s : St) (ss : List St) : evB cl gc (s :: ss) σ S = (evS cl gc s σ S).andThen (evB cl gc ss) := by rw [evB]
end
theorem run_at {fs : List Fn} {gc : List D} {k g : Nat} {ds : List D} {S : Store} {f : Fn} (hf : fs[g]? = some f) (hl : ds.length = f.ar) : run fs gc (k + 1) g ds S = endOf S.length (evB (run fs gc k) gc f.body (startD f.sl ds) S) := by
  rw [run, hf]
  dsimp only
  rw [if_pos (by rw [hl]; exact Nat.beq_refl _)]
@[simp] theorem trim_self (d : D) (S : Store) : trim S.length d S = S := by
  unfold trim
  rw [if_pos (Nat.beq_refl _)]
@[simp] theorem end_ret (d : D) (S : Store) : endOf S.length (.ret d S) = .ok d S := by
  show Out.ok d (trim S.length d S) = _
  rw [trim_self]
@[simp] theorem end_nx (σ : Env) (S : Store) : endOf S.length (.nx σ S) = .ok D.non S := by
  show Out.ok D.non (trim S.length D.non S) = _
  rw [trim_self]
end DL
end
section
set_option Elab.async false
set_option autoImplicit false
set_option linter.all false
set_option maxRecDepth 100000
set_option maxHeartbeats 2000000
/-! the terms of k21_whole_fractions; by gen.py -/
namespace LW
open DL
def F_law_dice : Fn := { ar := 2, sl := 5, body := [.asg (.nm 2) (.ite (.cmp .lt (.slot 1) (.bi .len [(.slot 0)])) (.bi .int [(.idx (.slot 0) (.slot 1))]) (.bin .add (.bin .mul (.con (.int 173)) (.slot 1)) (.con (.int 59)))),
    .asg (.nm 3) (.bin .mod (.bi .abs [(.slot 2)]) (.bin .pow (.bin .pow (.con (.int 10)) (.con (.int 47))) (.con (.int 7)))),
    .asg (.nm 4) (.bin .add (.bin .add (.bin .add (.bin .mul (.bin .mod (.slot 3) (.con (.int 2305843009213693669))) (.con (.int 89))) (.bin .mul (.con (.int 733)) (.slot 1))) (.bin .mul (.con (.int 43)) (.bi .int [(.cmp .lt (.slot 2) (.con (.int 0)))]))) (.con (.int 29))),
    .ret (.new [(.bi .max [(.con (.int 0)), (.bin .sub (.slot 3) (.bin .pow (.con (.int 10)) (.con (.int 15))))]), (.slot 4), (.con (.int 0))])] }
def F_law_mc_gcd : Fn := { ar := 2, sl := 2, body := [.asg (.tp [(.nm 0), (.nm 1)]) (.tup [(.bi .abs [(.slot 0)]), (.bi .abs [(.slot 1)])]),
    .wh (.cmp .gt (.slot 1) (.con (.int 0))) [.asg (.tp [(.nm 0), (.nm 1)]) (.tup [(.slot 1), (.bin .mod (.slot 0) (.slot 1))])],
    .ret (.slot 0)] }
def F_law_mc_fr : Fn := { ar := 2, sl := 3, body := [.asg (.nm 2) (.bin .mul (.call 1 [(.slot 0), (.slot 1)]) (.ite (.cmp .gt (.slot 1) (.con (.int 0))) (.con (.int 1)) (.neg (.con (.int 1))))),
    .ret (.tup [(.bin .fdiv (.slot 0) (.slot 2)), (.bin .fdiv (.slot 1) (.slot 2))])] }
def F_law_mc_plus : Fn := { ar := 2, sl := 2, body := [.ret (.call 2 [(.bin .add (.bin .mul (.idx (.slot 0) (.con (.int 0))) (.idx (.slot 1) (.con (.int 1)))) (.bin .mul (.idx (.slot 1) (.con (.int 0))) (.idx (.slot 0) (.con (.int 1))))), (.bin .mul (.idx (.slot 0) (.con (.int 1))) (.idx (.slot 1) (.con (.int 1))))])] }
def F_common_by : Fn := { ar := 2, sl := 2, body := [.asg (.tp [(.nm 0), (.nm 1)]) (.tup [(.bi .abs [(.slot 0)]), (.bi .abs [(.slot 1)])]),
    .wh (.cmp .gt (.slot 1) (.con (.int 0))) [.asg (.tp [(.nm 0), (.nm 1)]) (.tup [(.slot 1), (.bin .mod (.slot 0) (.slot 1))])],
    .ret (.slot 0)] }
def F_made : Fn := { ar := 2, sl := 3, body := [.ite (.cmp .lt (.slot 1) (.con (.int 0))) [.asg (.tp [(.nm 0), (.nm 1)]) (.tup [(.neg (.slot 0)), (.neg (.slot 1))])] [],
    .asg (.nm 2) (.call 4 [(.slot 0), (.slot 1)]),
    .ret (.tup [(.bin .fdiv (.slot 0) (.slot 2)), (.bin .fdiv (.slot 1) (.slot 2))])] }
def F_added : Fn := { ar := 2, sl := 2, body := [.ite (.chain .eq .eq (.idx (.slot 0) (.con (.int 1))) (.idx (.slot 1) (.con (.int 1))) (.con (.int 1))) [.ret (.tup [(.bin .add (.idx (.slot 0) (.con (.int 0))) (.idx (.slot 1) (.con (.int 0)))), (.con (.int 1))])] [],
    .ret (.call 5 [(.bin .add (.bin .mul (.idx (.slot 0) (.con (.int 0))) (.idx (.slot 1) (.con (.int 1)))) (.bin .mul (.idx (.slot 1) (.con (.int 0))) (.idx (.slot 0) (.con (.int 1))))), (.bin .mul (.idx (.slot 0) (.con (.int 1))) (.idx (.slot 1) (.con (.int 1))))])] }
def F_sum_by : Fn := { ar := 1, sl := 3, body := [.asg (.nm 1) (.gcon 0),
    .for_ (.nm 2) (.seq (.slot 0)) [.asg (.nm 1) (.call 6 [(.slot 1), (.slot 2)])],
    .ret (.slot 1)] }
def F_is_integer : Fn := { ar := 1, sl := 1, body := [.ret (.and (.bi (.isi [.int]) [(.slot 0)]) (.notE (.bi (.isi [.bool]) [(.slot 0)])))] }
def F_is_fraction : Fn := { ar := 1, sl := 2, body := [.ite (.or (.not (.val (.bi (.isi [.tup]) [(.slot 0)]))) (.or (.cmp .ne (.bi .len [(.slot 0)]) (.con (.int 2))) (.not (.val (.bi .all [(.comp (.nm 1) (.seq (.slot 0)) .none (.call 8 [(.slot 1)]) [1])]))))) [.ret (.con (.bl false))] [],
    .ret (.and (.cmp .ge (.idx (.slot 0) (.con (.int 1))) (.con (.int 1))) (.cmp .eq (.call 4 [(.idx (.slot 0) (.con (.int 0))), (.idx (.slot 0) (.con (.int 1)))]) (.con (.int 1))))] }
def F_are_fractions : Fn := { ar := 1, sl := 2, body := [.ret (.and (.bi (.isi [.tup]) [(.slot 0)]) (.bi .all [(.comp (.nm 1) (.seq (.slot 0)) .none (.call 9 [(.slot 1)]) [1])]))] }
def F_require_numbers : Fn := { ar := 2, sl := 2, body := [.ite (.or (.not (.val (.call 10 [(.slot 0)]))) (.cmp .lt (.bi .len [(.slot 0)]) (.slot 1))) [.never] [],
    .ret (.slot 0)] }
def F_sum_of : Fn := { ar := 1, sl := 1, body := [.ret (.call 7 [(.call 11 [(.slot 0), (.con (.int 0))])])] }
def F_law_roll : Fn := { ar := 2, sl := 5, body := [.ite (.cmp .gt (.idx (.slot 0) (.con (.int 0))) (.con (.int 0))) [.asg (.tp [(.sub (.slot 0) (.con (.int 0))), (.nm 4)]) (.bi .divmod [(.idx (.slot 0) (.con (.int 0))), (.slot 1)]),
    .ret (.bi .int [(.slot 4)])] [],
    .asg (.sub (.slot 0) (.con (.int 2))) (.bin .add (.idx (.slot 0) (.con (.int 2))) (.con (.int 1))),
    .asg (.nm 2) (.bin .mod (.bin .add (.idx (.slot 0) (.con (.int 1))) (.bin .mul (.con (.int 67867967)) (.idx (.slot 0) (.con (.int 2))))) (.con (.int 2305843009213693613))),
    .asg (.nm 3) (.bin .add (.bin .mul (.bin .mod (.bin .add (.bin .mul (.slot 2) (.slot 2)) (.bin .mul (.con (.int 211)) (.idx (.slot 0) (.con (.int 2))))) (.con (.int 2305843009213693487))) (.con (.int 49979693))) (.slot 2)),
    .ret (.bin .mod (.bi .int [(.bin .fdiv (.slot 3) (.con (.int 70001)))]) (.slot 1))] }
def F_law_pick : Fn := { ar := 2, sl := 2, body := [.ret (.idx (.slot 1) (.call 13 [(.slot 0), (.bi .len [(.slot 1)])]))] }
def F_law_drawn : Fn := { ar := 1, sl := 2, body := [.asg (.nm 1) (.call 14 [(.slot 0), (.lst [(.con (.int 1)), (.con (.int 1)), (.con (.int 1)), (.bin .add (.bin .pow (.con (.int 10)) (.con (.int 6))) (.con (.int 3))), (.bin .add (.bin .pow (.con (.int 10)) (.con (.int 31))) (.con (.int 7)))])]),
    .ret (.call 2 [(.bin .add (.bin .mul (.bin .sub (.call 13 [(.slot 0), (.con (.int 41))]) (.con (.int 20))) (.slot 1)) (.call 13 [(.slot 0), (.con (.int 3))])), (.bin .add (.con (.int 1)) (.call 13 [(.slot 0), (.con (.int 12))]))])] }
def F_is_less_by : Fn := { ar := 2, sl := 2, body := [.ret (.cmp .lt (.bin .mul (.idx (.slot 0) (.con (.int 0))) (.idx (.slot 1) (.con (.int 1)))) (.bin .mul (.idx (.slot 1) (.con (.int 0))) (.idx (.slot 0) (.con (.int 1)))))] }
def F_least_by : Fn := { ar := 1, sl := 3, body := [.asg (.nm 1) (.idx (.slot 0) (.con (.int 0))),
    .for_ (.nm 2) (.seq (.slc (.slot 0) (.some (.con (.int 1))) .none)) [.asg (.nm 1) (.ite (.val (.call 16 [(.slot 2), (.slot 1)])) (.slot 2) (.slot 1))],
    .ret (.slot 1)] }
def F_least_of : Fn := { ar := 1, sl := 1, body := [.ret (.call 17 [(.call 11 [(.slot 0), (.con (.int 1))])])] }
def F_opposite : Fn := { ar := 1, sl := 1, body := [.ret (.tup [(.neg (.idx (.slot 0) (.con (.int 0)))), (.idx (.slot 0) (.con (.int 1)))])] }
def F_greatest_by : Fn := { ar := 1, sl := 2, body := [.ret (.call 19 [(.call 17 [(.comp (.nm 1) (.seq (.slot 0)) .none (.call 19 [(.slot 1)]) [1])])])] }
def F_greatest_of : Fn := { ar := 1, sl := 1, body := [.ret (.call 20 [(.call 11 [(.slot 0), (.con (.int 1))])])] }
def F_require_fraction : Fn := { ar := 1, sl := 1, body := [.ite (.not (.val (.call 9 [(.slot 0)]))) [.never] [],
    .ret (.slot 0)] }
def F_require_both : Fn := { ar := 2, sl := 2, body := [.exp (.call 22 [(.slot 0)]),
    .exp (.call 22 [(.slot 1)])] }
def F_multiplied : Fn := { ar := 2, sl := 2, body := [.ite (.chain .eq .eq (.idx (.slot 0) (.con (.int 1))) (.idx (.slot 1) (.con (.int 1))) (.con (.int 1))) [.ret (.tup [(.bin .mul (.idx (.slot 0) (.con (.int 0))) (.idx (.slot 1) (.con (.int 0)))), (.con (.int 1))])] [],
    .ret (.call 5 [(.bin .mul (.idx (.slot 0) (.con (.int 0))) (.idx (.slot 1) (.con (.int 0)))), (.bin .mul (.idx (.slot 0) (.con (.int 1))) (.idx (.slot 1) (.con (.int 1))))])] }
def F_times : Fn := { ar := 2, sl := 2, body := [.exp (.call 23 [(.slot 0), (.slot 1)]),
    .ret (.call 24 [(.slot 0), (.slot 1)])] }
def F_law_mc_times : Fn := { ar := 2, sl := 2, body := [.ret (.call 2 [(.bin .mul (.idx (.slot 0) (.con (.int 0))) (.idx (.slot 1) (.con (.int 0)))), (.bin .mul (.idx (.slot 0) (.con (.int 1))) (.idx (.slot 1) (.con (.int 1))))])] }
def F_plus : Fn := { ar := 2, sl := 2, body := [.exp (.call 23 [(.slot 0), (.slot 1)]),
    .ret (.call 6 [(.slot 0), (.slot 1)])] }
def F_less : Fn := { ar := 2, sl := 2, body := [.ret (.call 6 [(.slot 0), (.call 19 [(.slot 1)])])] }
def F_minus : Fn := { ar := 2, sl := 2, body := [.exp (.call 23 [(.slot 0), (.slot 1)]),
    .ret (.call 28 [(.slot 0), (.slot 1)])] }
def F_law_mc_minus : Fn := { ar := 2, sl := 2, body := [.ret (.call 2 [(.bin .sub (.bin .mul (.idx (.slot 0) (.con (.int 0))) (.idx (.slot 1) (.con (.int 1)))) (.bin .mul (.idx (.slot 1) (.con (.int 0))) (.idx (.slot 0) (.con (.int 1))))), (.bin .mul (.idx (.slot 0) (.con (.int 1))) (.idx (.slot 1) (.con (.int 1))))])] }
def F_is_less : Fn := { ar := 2, sl := 2, body := [.exp (.call 23 [(.slot 0), (.slot 1)]),
    .ret (.call 16 [(.slot 0), (.slot 1)])] }
def F_sign_by : Fn := { ar := 1, sl := 1, body := [.ret (.bin .sub (.bi .int [(.cmp .gt (.idx (.slot 0) (.con (.int 0))) (.con (.int 0)))]) (.bi .int [(.cmp .lt (.idx (.slot 0) (.con (.int 0))) (.con (.int 0)))]))] }
def F_sign_of : Fn := { ar := 1, sl := 1, body := [.ret (.call 32 [(.call 22 [(.slot 0)])])] }
def F_fraction : Fn := { ar := 2, sl := 3, body := [.for_ (.nm 2) (.seq (.tup [(.slot 0), (.slot 1)])) [.ite (.not (.val (.call 8 [(.slot 2)]))) [.never] []],
    .ite (.cmp .eq (.slot 1) (.con (.int 0))) [.never] [],
    .ret (.call 5 [(.slot 0), (.slot 1)])] }
def F_divided : Fn := { ar := 2, sl := 2, body := [.ret (.call 5 [(.bin .mul (.idx (.slot 0) (.con (.int 0))) (.idx (.slot 1) (.con (.int 1)))), (.bin .mul (.idx (.slot 0) (.con (.int 1))) (.idx (.slot 1) (.con (.int 0))))])] }
def F_over : Fn := { ar := 2, sl := 2, body := [.exp (.call 23 [(.slot 0), (.slot 1)]),
    .ite (.cmp .eq (.slot 1) (.gcon 0)) [.never] [],
    .ret (.call 35 [(.slot 0), (.slot 1)])] }
def F_law_mc_over : Fn := { ar := 2, sl := 2, body := [.ret (.call 2 [(.bin .mul (.idx (.slot 0) (.con (.int 0))) (.idx (.slot 1) (.con (.int 1)))), (.bin .mul (.idx (.slot 0) (.con (.int 1))) (.idx (.slot 1) (.con (.int 0))))])] }
def F_law_two_right : Fn := { ar := 3, sl := 4, body := [.ite (.or (.cmp .ne (.call 27 [(.slot 1), (.slot 2)]) (.call 3 [(.slot 1), (.slot 2)])) (.cmp .ne (.call 29 [(.slot 1), (.slot 2)]) (.call 30 [(.slot 1), (.slot 2)]))) [.ret (.con (.bl false))] [],
    .ite (.cmp .ne (.call 25 [(.slot 1), (.slot 2)]) (.call 26 [(.slot 1), (.slot 2)])) [.ret (.con (.bl false))] [],
    .ite (.and (.cmp .ne (.idx (.slot 2) (.con (.int 0))) (.con (.int 0))) (.or (.cmp .ne (.call 36 [(.slot 1), (.slot 2)]) (.call 37 [(.slot 1), (.slot 2)])) (.cmp .ne (.call 25 [(.call 36 [(.slot 1), (.slot 2)]), (.slot 2)]) (.slot 1)))) [.ret (.con (.bl false))] [],
    .asg (.nm 3) (.cmp .lt (.bin .mul (.idx (.slot 1) (.con (.int 0))) (.idx (.slot 2) (.con (.int 1)))) (.bin .mul (.idx (.slot 2) (.con (.int 0))) (.idx (.slot 1) (.con (.int 1))))),
    .ite (.or (.cmp .ne (.call 31 [(.slot 1), (.slot 2)]) (.slot 3)) (.cmp .ne (.call 33 [(.call 29 [(.slot 1), (.slot 2)])]) (.ite (.val (.slot 3)) (.neg (.con (.int 1))) (.bi .int [(.cmp .ne (.slot 1) (.slot 2))])))) [.ret (.con (.bl false))] [],
    .ret (.and (.cmp .eq (.call 34 [(.bin .mul (.idx (.slot 1) (.con (.int 0))) (.idx (.slot 2) (.con (.int 1)))), (.bin .mul (.idx (.slot 1) (.con (.int 1))) (.idx (.slot 2) (.con (.int 1))))]) (.slot 1)) (.cmp .eq (.call 34 [(.bin .mul (.neg (.idx (.slot 1) (.con (.int 0)))) (.con (.int 3))), (.bin .mul (.neg (.idx (.slot 1) (.con (.int 1)))) (.con (.int 3)))]) (.slot 1)))] }
def F_floor_of : Fn := { ar := 1, sl := 1, body := [.exp (.call 22 [(.slot 0)]),
    .ret (.bin .fdiv (.idx (.slot 0) (.con (.int 0))) (.idx (.slot 0) (.con (.int 1))))] }
def F_great_step : Fn := { ar := 0, sl := 0, body := [.ret (.bi .int [(.bin .add (.con (.str [49])) (.bin .mul (.con (.str [48])) (.gcon 1)))])] }
def F_digits_text : Fn := { ar := 1, sl := 5, body := [.asg (.tp [(.nm 1), (.nm 2), (.nm 3)]) (.tup [(.call 40 []), (.new []), (.slot 0)]),
    .wh (.cmp .ge (.slot 3) (.slot 1)) [.asg (.tp [(.nm 3), (.nm 4)]) (.bi .divmod [(.slot 3), (.slot 1)]),
    .never],
    .ret (.join (.con (.str [])) (.lst [(.bi .str [(.slot 3)]), (.star (.rev (.slot 2)))]))] }
def F_number_text : Fn := { ar := 1, sl := 1, body := [.ret (.ite (.cmp .lt (.slot 0) (.con (.int 0))) (.bin .add (.con (.str [45])) (.call 41 [(.neg (.slot 0))])) (.call 41 [(.slot 0)]))] }
def F_text_by : Fn := { ar := 1, sl := 1, body := [.ret (.ite (.cmp .eq (.idx (.slot 0) (.con (.int 1))) (.con (.int 1))) (.call 42 [(.idx (.slot 0) (.con (.int 0)))]) (.bin .add (.bin .add (.call 42 [(.idx (.slot 0) (.con (.int 0)))]) (.con (.str [47]))) (.call 42 [(.idx (.slot 0) (.con (.int 1)))])))] }
def F_fraction_text : Fn := { ar := 1, sl := 1, body := [.ret (.call 43 [(.call 22 [(.slot 0)])])] }
def F_law_text : Fn := { ar := 1, sl := 1, body := [.ret (.bin .add (.bi .str [(.idx (.slot 0) (.con (.int 0)))]) (.ite (.cmp .eq (.idx (.slot 0) (.con (.int 1))) (.con (.int 1))) (.con (.str [])) (.bin .add (.con (.str [47])) (.bi .str [(.idx (.slot 0) (.con (.int 1)))]))))] }
def F_digits_in : Fn := { ar := 1, sl := 6, body := [.ite (.or (.cmp .eq (.slot 0) (.con (.str []))) (.or (.not (.val (.bi .all [(.comp (.nm 5) (.seq (.slot 0)) .none (.cmp .inn (.slot 5) (.gcon 2)) [5])]))) (.and (.cmp .eq (.idx (.slot 0) (.con (.int 0))) (.con (.str [48]))) (.cmp .ne (.slot 0) (.con (.str [48])))))) [.ret (.con .non)] [],
    .asg (.tp [(.nm 2), (.nm 3), (.nm 4)]) (.tup [(.bin .mod (.bi .len [(.slot 0)]) (.gcon 1)), (.con (.int 0)), (.call 40 [])]),
    .ite (.cmp .gt (.slot 2) (.con (.int 0))) [.asg (.nm 3) (.bi .int [(.slc (.slot 0) .none (.some (.slot 2)))])] [],
    .for_ (.nm 1) (.rng3 (.slot 2) (.bi .len [(.slot 0)]) (.gcon 1)) [.asg (.nm 3) (.bin .add (.bin .mul (.slot 3) (.slot 4)) (.bi .int [(.slc (.slot 0) (.some (.slot 1)) (.some (.bin .add (.slot 1) (.gcon 1))))]))],
    .ret (.slot 3)] }
def F_number_in : Fn := { ar := 1, sl := 2, body := [.ite (.cmp .ne (.slc (.slot 0) .none (.some (.con (.int 1)))) (.con (.str [45]))) [.ret (.call 46 [(.slot 0)])] [],
    .asg (.nm 1) (.call 46 [(.slc (.slot 0) (.some (.con (.int 1))) .none)]),
    .ret (.ite (.and (.cmp .isn (.slot 1) (.con .non)) (.cmp .ne (.slot 1) (.con (.int 0)))) (.neg (.slot 1)) (.con .non))] }
def F_number_by : Fn := { ar := 1, sl := 4, body := [.asg (.nm 1) (.mth .split (.slot 0) [(.con (.str [47]))]),
    .asg (.nm 2) (.call 47 [(.idx (.slot 1) (.con (.int 0)))]),
    .ite (.or (.cmp .is (.slot 2) (.con .non)) (.cmp .gt (.bi .len [(.slot 1)]) (.con (.int 2)))) [.ret (.con .non)] [],
    .asg (.nm 3) (.ite (.cmp .eq (.bi .len [(.slot 1)]) (.con (.int 1))) (.con (.int 1)) (.call 46 [(.idx (.slot 1) (.con (.int 1)))])),
    .ite (.or (.cmp .is (.slot 3) (.con .non)) (.or (.cmp .eq (.slot 3) (.con (.int 0))) (.or (.and (.cmp .eq (.bi .len [(.slot 1)]) (.con (.int 2))) (.cmp .eq (.slot 3) (.con (.int 1)))) (.cmp .ne (.call 4 [(.slot 2), (.slot 3)]) (.con (.int 1)))))) [.ret (.con .non)] [],
    .ret (.tup [(.slot 2), (.slot 3)])] }
def F_fraction_in : Fn := { ar := 1, sl := 2, body := [.asg (.nm 1) (.ite (.val (.bi (.isi [.str]) [(.slot 0)])) (.call 48 [(.slot 0)]) (.con .non)),
    .ite (.cmp .is (.slot 1) (.con .non)) [.never] [],
    .ret (.slot 1)] }
def F_is_count : Fn := { ar := 3, sl := 3, body := [.ret (.and (.call 8 [(.slot 0)]) (.chain .le .le (.slot 1) (.slot 0) (.slot 2)))] }
def F_require_count : Fn := { ar := 3, sl := 3, body := [.ite (.not (.val (.call 50 [(.slot 0), (.slot 1), (.slot 2)]))) [.never] [],
    .ret (.slot 0)] }
def F_power : Fn := { ar := 2, sl := 4, body := [.exp (.call 22 [(.slot 0)]),
    .exp (.call 51 [(.slot 1), (.con (.int 0)), (.gcon 3)]),
    .asg (.nm 2) (.gcon 4),
    .for_ (.nm 3) (.rng1 (.slot 1)) [.asg (.nm 2) (.call 24 [(.slot 2), (.slot 0)])],
    .ret (.slot 2)] }
def F_law_one_right : Fn := { ar := 2, sl := 8, body := [.ite (.or (.cmp .isn (.call 9 [(.slot 1)]) (.con (.bl true))) (.or (.cmp .ne (.call 44 [(.slot 1)]) (.call 45 [(.slot 1)])) (.cmp .ne (.call 49 [(.call 45 [(.slot 1)])]) (.slot 1)))) [.ret (.con (.bl false))] [],
    .asg (.tp [(.nm 5), (.nm 6)]) (.tup [(.call 39 [(.slot 1)]), (.call 13 [(.slot 0), (.con (.int 8))])]),
    .ite (.or (.cmp .gt (.bin .mul (.slot 5) (.idx (.slot 1) (.con (.int 1)))) (.idx (.slot 1) (.con (.int 0)))) (.cmp .le (.bin .mul (.bin .add (.slot 5) (.con (.int 1))) (.idx (.slot 1) (.con (.int 1)))) (.idx (.slot 1) (.con (.int 0))))) [.ret (.con (.bl false))] [],
    .asg (.nm 2) (.tup [(.con (.int 1)), (.con (.int 1))]),
    .for_ (.nm 3) (.rng1 (.slot 6)) [.asg (.nm 2) (.call 26 [(.slot 2), (.slot 1)])],
    .ite (.or (.cmp .ne (.call 52 [(.slot 1), (.slot 6)]) (.slot 2)) (.cmp .ne (.call 52 [(.slot 1), (.con (.int 0))]) (.gcon 4))) [.ret (.con (.bl false))] [],
    .asg (.nm 4) (.lst [(.bi .list [(.slot 1)]), (.slc (.slot 1) .none (.some (.con (.int 1)))), (.bin .add (.slot 1) (.tup [(.con (.int 1))])), (.tup [(.idx (.slot 1) (.con (.int 0))), (.con (.int 0))]), (.tup [(.idx (.slot 1) (.con (.int 0))), (.neg (.idx (.slot 1) (.con (.int 1))))]), (.tup [(.bin .mul (.idx (.slot 1) (.con (.int 0))) (.con (.int 2))), (.bin .mul (.idx (.slot 1) (.con (.int 1))) (.con (.int 2)))]), (.con .non), (.con (.int 0)), (.con (.str [49])), (.tup [(.con (.bl true)), (.con (.int 1))])]),
    .asg (.nm 4) (.bin .add (.slot 4) (.lst [(.tup [(.idx (.slot 1) (.con (.int 0))), (.bi .str [(.idx (.slot 1) (.con (.int 1)))])]), .dict0, (.tup [(.con (.int 0)), (.con (.int 2))]), (.tup [(.con (.int 1)), (.con (.bl true))]), (.tup [(.tup [(.con (.int 1)), (.con (.int 1))]), (.con (.int 1))])])),
    .ret (.cmp .eq (.comp (.nm 7) (.seq (.slot 4)) (.some (.cmp .isn (.call 9 [(.slot 7)]) (.con (.bl false)))) (.con (.int 1)) [7]) (.lst []))] }
def F_law_mc_at_most : Fn := { ar := 2, sl := 2, body := [.ret (.cmp .le (.bin .mul (.idx (.slot 0) (.con (.int 0))) (.idx (.slot 1) (.con (.int 1)))) (.bin .mul (.idx (.slot 1) (.con (.int 0))) (.idx (.slot 0) (.con (.int 1)))))] }
def F_simplest_from : Fn := { ar := 2, sl := 5, body := [.asg (.nm 2) (.new []),
    .wh (.cmp .gt (.bin .mul (.neg (.bin .fdiv (.neg (.idx (.slot 0) (.con (.int 0)))) (.idx (.slot 0) (.con (.int 1))))) (.idx (.slot 1) (.con (.int 1)))) (.idx (.slot 1) (.con (.int 0)))) [.asg (.nm 4) (.tup [(.bin .fdiv (.idx (.slot 0) (.con (.int 0))) (.idx (.slot 0) (.con (.int 1)))), (.con (.int 1))]),
    .app (.slot 2) (.slot 4),
    .asg (.tp [(.nm 0), (.nm 1)]) (.tup [(.call 35 [(.gcon 4), (.call 28 [(.slot 1), (.slot 4)])]), (.call 35 [(.gcon 4), (.call 28 [(.slot 0), (.slot 4)])])])],
    .asg (.nm 3) (.tup [(.neg (.bin .fdiv (.neg (.idx (.slot 0) (.con (.int 0)))) (.idx (.slot 0) (.con (.int 1))))), (.con (.int 1))]),
    .for_ (.nm 4) (.seq (.rev (.slot 2))) [.asg (.nm 3) (.call 6 [(.slot 4), (.call 35 [(.gcon 4), (.slot 3)])])],
    .ret (.slot 3)] }
def F_simplest_between : Fn := { ar := 2, sl := 2, body := [.exp (.call 23 [(.slot 0), (.slot 1)]),
    .ite (.val (.call 16 [(.slot 1), (.slot 0)])) [.never] [],
    .ite (.chain .le .le (.idx (.slot 0) (.con (.int 0))) (.con (.int 0)) (.idx (.slot 1) (.con (.int 0)))) [.ret (.gcon 0)] [],
    .ite (.cmp .gt (.idx (.slot 0) (.con (.int 0))) (.con (.int 0))) [.ret (.call 55 [(.slot 0), (.slot 1)])] [],
    .ret (.call 19 [(.call 55 [(.call 19 [(.slot 1)]), (.call 19 [(.slot 0)])])])] }
def F_law_simple_right : Fn := { ar := 1, sl := 8, body := [.asg (.tp [(.nm 2), (.nm 3)]) (.tup [(.call 2 [(.bin .sub (.call 13 [(.slot 0), (.con (.int 25))]) (.con (.int 12))), (.bin .add (.con (.int 1)) (.call 13 [(.slot 0), (.con (.int 7))]))]), (.call 2 [(.bin .sub (.call 13 [(.slot 0), (.con (.int 25))]) (.con (.int 12))), (.bin .add (.con (.int 1)) (.call 13 [(.slot 0), (.con (.int 7))]))])]),
    .ite (.not (.val (.call 54 [(.slot 2), (.slot 3)]))) [.asg (.tp [(.nm 2), (.nm 3)]) (.tup [(.slot 3), (.slot 2)])] [],
    .for_ (.nm 1) (.rng2 (.con (.int 1)) (.con (.int 60))) [.asg (.nm 4) (.comp (.nm 7) (.rng2 (.bin .mul (.neg (.con (.int 13))) (.slot 1)) (.bin .add (.bin .mul (.con (.int 13)) (.slot 1)) (.con (.int 1)))) (.some (.val (.call 54 [(.slot 2), (.tup [(.slot 7), (.slot 1)])]))) (.slot 7) [7]),
    .asg (.nm 4) (.comp (.nm 7) (.seq (.slot 4)) (.some (.val (.call 54 [(.tup [(.slot 7), (.slot 1)]), (.slot 3)]))) (.slot 7) [7]),
    .ite (.cmp .ne (.slot 4) (.lst [])) [.asg (.nm 5) (.bi .minl [(.comp (.nm 7) (.seq (.slot 4)) .none (.bi .abs [(.slot 7)]) [7])]),
    .asg (.nm 6) (.ite (.cmp .inn (.slot 5) (.slot 4)) (.tup [(.slot 5), (.slot 1)]) (.tup [(.neg (.slot 5)), (.slot 1)])),
    .ret (.and (.cmp .eq (.call 56 [(.slot 2), (.slot 3)]) (.slot 6)) (.cmp .is (.call 9 [(.slot 6)]) (.con (.bl true))))] []],
    .ret (.con (.bl false))] }
def F_law : Fn := { ar := 1, sl := 10, body := [.for_ (.nm 1) (.rng1 (.bi .max [(.con (.int 1)), (.bi .min [(.con (.int 5)), (.bi .len [(.slot 0)])])])) [.asg (.nm 2) (.call 0 [(.slot 0), (.slot 1)]),
    .for_ (.nm 3) (.rng1 (.con (.int 6))) [.asg (.tp [(.nm 5), (.nm 9)]) (.tup [(.call 15 [(.slot 2)]), (.call 15 [(.slot 2)])]),
    .ite (.or (.not (.val (.call 38 [(.slot 2), (.slot 5), (.slot 9)]))) (.or (.not (.val (.call 53 [(.slot 2), (.slot 5)]))) (.not (.val (.call 57 [(.slot 2)]))))) [.ret (.con (.bl false))] []],
    .asg (.nm 4) (.bi .tuple [(.comp (.nm 3) (.rng1 (.bin .add (.con (.int 1)) (.call 13 [(.slot 2), (.con (.int 6))]))) .none (.call 15 [(.slot 2)]) [3])]),
    .asg (.tp [(.nm 6), (.nm 7), (.nm 8)]) (.tup [(.tup [(.con (.int 0)), (.con (.int 1))]), (.idx (.slot 4) (.con (.int 0))), (.idx (.slot 4) (.con (.int 0)))]),
    .for_ (.nm 5) (.seq (.slot 4)) [.asg (.nm 6) (.call 3 [(.slot 6), (.slot 5)]),
    .asg (.tp [(.nm 7), (.nm 8)]) (.tup [(.ite (.val (.call 54 [(.slot 5), (.slot 7)])) (.slot 5) (.slot 7)), (.ite (.val (.call 54 [(.slot 8), (.slot 5)])) (.slot 5) (.slot 8))])],
    .ite (.or (.cmp .ne (.call 12 [(.slot 4)]) (.slot 6)) (.or (.cmp .ne (.call 12 [(.rev (.slot 4))]) (.slot 6)) (.or (.cmp .ne (.call 18 [(.slot 4)]) (.slot 7)) (.cmp .ne (.call 21 [(.slot 4)]) (.slot 8))))) [.ret (.con (.bl false))] []],
    .ret (.and (.cmp .eq (.gcon 0) (.tup [(.con (.int 0)), (.con (.int 1))])) (.and (.cmp .eq (.gcon 4) (.tup [(.con (.int 1)), (.con (.int 1))])) (.cmp .eq (.call 12 [(.tup [])]) (.gcon 0))))] }
def fns : List Fn := [F_law_dice, F_law_mc_gcd, F_law_mc_fr, F_law_mc_plus, F_common_by, F_made, F_added, F_sum_by, F_is_integer, F_is_fraction, F_are_fractions, F_require_numbers, F_sum_of, F_law_roll, F_law_pick, F_law_drawn, F_is_less_by, F_least_by, F_least_of, F_opposite, F_greatest_by, F_greatest_of, F_require_fraction, F_require_both, F_multiplied, F_times, F_law_mc_times, F_plus, F_less, F_minus, F_law_mc_minus, F_is_less, F_sign_by, F_sign_of, F_fraction, F_divided, F_over, F_law_mc_over, F_law_two_right, F_floor_of, F_great_step, F_digits_text, F_number_text, F_text_by, F_fraction_text, F_law_text, F_digits_in, F_number_in, F_number_by, F_fraction_in, F_is_count, F_require_count, F_power, F_law_one_right, F_law_mc_at_most, F_simplest_from, F_simplest_between, F_law_simple_right, F_law]
def gcons : List D := [(.tup [(.int 0), (.int 1)]), (.int 4000), (.str [48, 49, 50, 51, 52, 53, 54, 55, 56, 57]), (.int 60), (.tup [(.int 1), (.int 1)])]
theorem at_law_dice : fns[0]? = some F_law_dice := rfl
theorem at_law_mc_gcd : fns[1]? = some F_law_mc_gcd := rfl
theorem at_law_mc_fr : fns[2]? = some F_law_mc_fr := rfl
theorem at_law_mc_plus : fns[3]? = some F_law_mc_plus := rfl
theorem at_common_by : fns[4]? = some F_common_by := rfl
theorem at_made : fns[5]? = some F_made := rfl
theorem at_added : fns[6]? = some F_added := rfl
theorem at_sum_by : fns[7]? = some F_sum_by := rfl
theorem at_is_integer : fns[8]? = some F_is_integer := rfl
theorem at_is_fraction : fns[9]? = some F_is_fraction := rfl
theorem at_are_fractions : fns[10]? = some F_are_fractions := rfl
theorem at_require_numbers : fns[11]? = some F_require_numbers := rfl
theorem at_sum_of : fns[12]? = some F_sum_of := rfl
theorem at_law_roll : fns[13]? = some F_law_roll := rfl
theorem at_law_pick : fns[14]? = some F_law_pick := rfl
theorem at_law_drawn : fns[15]? = some F_law_drawn := rfl
theorem at_is_less_by : fns[16]? = some F_is_less_by := rfl
theorem at_least_by : fns[17]? = some F_least_by := rfl
theorem at_least_of : fns[18]? = some F_least_of := rfl
theorem at_opposite : fns[19]? = some F_opposite := rfl
theorem at_greatest_by : fns[20]? = some F_greatest_by := rfl
theorem at_greatest_of : fns[21]? = some F_greatest_of := rfl
theorem at_require_fraction : fns[22]? = some F_require_fraction := rfl
theorem at_require_both : fns[23]? = some F_require_both := rfl
theorem at_multiplied : fns[24]? = some F_multiplied := rfl
theorem at_times : fns[25]? = some F_times := rfl
theorem at_law_mc_times : fns[26]? = some F_law_mc_times := rfl
theorem at_plus : fns[27]? = some F_plus := rfl
theorem at_less : fns[28]? = some F_less := rfl
theorem at_minus : fns[29]? = some F_minus := rfl
theorem at_law_mc_minus : fns[30]? = some F_law_mc_minus := rfl
theorem at_is_less : fns[31]? = some F_is_less := rfl
theorem at_sign_by : fns[32]? = some F_sign_by := rfl
theorem at_sign_of : fns[33]? = some F_sign_of := rfl
theorem at_fraction : fns[34]? = some F_fraction := rfl
theorem at_divided : fns[35]? = some F_divided := rfl
theorem at_over : fns[36]? = some F_over := rfl
theorem at_law_mc_over : fns[37]? = some F_law_mc_over := rfl
theorem at_law_two_right : fns[38]? = some F_law_two_right := rfl
theorem at_floor_of : fns[39]? = some F_floor_of := rfl
theorem at_great_step : fns[40]? = some F_great_step := rfl
theorem at_digits_text : fns[41]? = some F_digits_text := rfl
theorem at_number_text : fns[42]? = some F_number_text := rfl
theorem at_text_by : fns[43]? = some F_text_by := rfl
theorem at_fraction_text : fns[44]? = some F_fraction_text := rfl
theorem at_law_text : fns[45]? = some F_law_text := rfl
theorem at_digits_in : fns[46]? = some F_digits_in := rfl
theorem at_number_in : fns[47]? = some F_number_in := rfl
theorem at_number_by : fns[48]? = some F_number_by := rfl
theorem at_fraction_in : fns[49]? = some F_fraction_in := rfl
theorem at_is_count : fns[50]? = some F_is_count := rfl
theorem at_require_count : fns[51]? = some F_require_count := rfl
theorem at_power : fns[52]? = some F_power := rfl
theorem at_law_one_right : fns[53]? = some F_law_one_right := rfl
theorem at_law_mc_at_most : fns[54]? = some F_law_mc_at_most := rfl
theorem at_simplest_from : fns[55]? = some F_simplest_from := rfl
theorem at_simplest_between : fns[56]? = some F_simplest_between := rfl
theorem at_law_simple_right : fns[57]? = some F_law_simple_right := rfl
theorem at_law : fns[58]? = some F_law := rfl
end LW
end
section
set_option Elab.async false
set_option autoImplicit false
set_option linter.all false
set_option maxRecDepth 100000
set_option maxHeartbeats 0
namespace LW
open PySem PySem.Spec PyProof.Rows L2 DL
def top (i : Nat) : Stmt := PySem.Challenge.pw_meanclouds_k21_whole_fractions.main.body.getD i (.Pass ⟨0, 0, 0, 0⟩)
def R_law_dice : Rowd := ⟨F_law_dice, ⟨("_law_dice", none), "_law_dice", "_law_dice", L2.defArgs (top 59), L2.defBody (top 59), L2.defScope (top 59), [], []⟩, ["script", "spot", "cell", "great", "seed"], ["script", "spot"]⟩
theorem B_law_dice : BndOk R_law_dice := fun _ _ _ _ _ _ us hl => match us, hl with | [_, _], _ => rfl
def R_law_mc_gcd : Rowd := ⟨F_law_mc_gcd, ⟨("_law_mc_gcd", none), "_law_mc_gcd", "_law_mc_gcd", L2.defArgs (top 62), L2.defBody (top 62), L2.defScope (top 62), [], []⟩, ["one", "other"], ["one", "other"]⟩
theorem B_law_mc_gcd : BndOk R_law_mc_gcd := fun _ _ _ _ _ _ us hl => match us, hl with | [_, _], _ => rfl
def R_law_mc_fr : Rowd := ⟨F_law_mc_fr, ⟨("_law_mc_fr", none), "_law_mc_fr", "_law_mc_fr", L2.defArgs (top 63), L2.defBody (top 63), L2.defScope (top 63), [], []⟩, ["top", "below", "shared"], ["top", "below"]⟩
theorem B_law_mc_fr : BndOk R_law_mc_fr := fun _ _ _ _ _ _ us hl => match us, hl with | [_, _], _ => rfl
def R_law_mc_plus : Rowd := ⟨F_law_mc_plus, ⟨("_law_mc_plus", none), "_law_mc_plus", "_law_mc_plus", L2.defArgs (top 64), L2.defBody (top 64), L2.defScope (top 64), [], []⟩, ["one", "other"], ["one", "other"]⟩
theorem B_law_mc_plus : BndOk R_law_mc_plus := fun _ _ _ _ _ _ us hl => match us, hl with | [_, _], _ => rfl
def R_common_by : Rowd := ⟨F_common_by, ⟨("common_by", none), "common_by", "common_by", L2.defArgs (top 23), L2.defBody (top 23), L2.defScope (top 23), [], []⟩, ["one", "other"], ["one", "other"]⟩
theorem B_common_by : BndOk R_common_by := fun _ _ _ _ _ _ us hl => match us, hl with | [_, _], _ => rfl
def R_made : Rowd := ⟨F_made, ⟨("made", none), "made", "made", L2.defArgs (top 28), L2.defBody (top 28), L2.defScope (top 28), [], []⟩, ["top", "below", "common"], ["top", "below"]⟩
theorem B_made : BndOk R_made := fun _ _ _ _ _ _ us hl => match us, hl with | [_, _], _ => rfl
def R_added : Rowd := ⟨F_added, ⟨("added", none), "added", "added", L2.defArgs (top 29), L2.defBody (top 29), L2.defScope (top 29), [], []⟩, ["one", "other"], ["one", "other"]⟩
theorem B_added : BndOk R_added := fun _ _ _ _ _ _ us hl => match us, hl with | [_, _], _ => rfl
def R_sum_by : Rowd := ⟨F_sum_by, ⟨("sum_by", none), "sum_by", "sum_by", L2.defArgs (top 36), L2.defBody (top 36), L2.defScope (top 36), [], []⟩, ["numbers", "found", "one"], ["numbers"]⟩
theorem B_sum_by : BndOk R_sum_by := fun _ _ _ _ _ _ us hl => match us, hl with | [_], _ => rfl
def R_is_integer : Rowd := ⟨F_is_integer, ⟨("is_integer", none), "is_integer", "is_integer", L2.defArgs (top 8), L2.defBody (top 8), L2.defScope (top 8), [], []⟩, ["value"], ["value"]⟩
theorem B_is_integer : BndOk R_is_integer := fun _ _ _ _ _ _ us hl => match us, hl with | [_], _ => rfl
def R_is_fraction : Rowd := ⟨F_is_fraction, ⟨("is_fraction", none), "is_fraction", "is_fraction", L2.defArgs (top 24), L2.defBody (top 24), L2.defScope (top 24), [], []⟩, ["value", "one"], ["value"]⟩
theorem B_is_fraction : BndOk R_is_fraction := fun _ _ _ _ _ _ us hl => match us, hl with | [_], _ => rfl
def R_are_fractions : Rowd := ⟨F_are_fractions, ⟨("are_fractions", none), "are_fractions", "are_fractions", L2.defArgs (top 26), L2.defBody (top 26), L2.defScope (top 26), [], []⟩, ["value", "one"], ["value"]⟩
theorem B_are_fractions : BndOk R_are_fractions := fun _ _ _ _ _ _ us hl => match us, hl with | [_], _ => rfl
def R_require_numbers : Rowd := ⟨F_require_numbers, ⟨("require_numbers", none), "require_numbers", "require_numbers", L2.defArgs (top 46), L2.defBody (top 46), L2.defScope (top 46), [], []⟩, ["numbers", "many"], ["numbers", "many"]⟩
theorem B_require_numbers : BndOk R_require_numbers := fun _ _ _ _ _ _ us hl => match us, hl with | [_, _], _ => rfl
def R_sum_of : Rowd := ⟨F_sum_of, ⟨("sum_of", none), "sum_of", "sum_of", L2.defArgs (top 47), L2.defBody (top 47), L2.defScope (top 47), [], []⟩, ["numbers"], ["numbers"]⟩
theorem B_sum_of : BndOk R_sum_of := fun _ _ _ _ _ _ us hl => match us, hl with | [_], _ => rfl
def R_law_roll : Rowd := ⟨F_law_roll, ⟨("_law_roll", none), "_law_roll", "_law_roll", L2.defArgs (top 60), L2.defBody (top 60), L2.defScope (top 60), [], []⟩, ["dice", "total", "one", "two", "found"], ["dice", "total"]⟩
theorem B_law_roll : BndOk R_law_roll := fun _ _ _ _ _ _ us hl => match us, hl with | [_, _], _ => rfl
def R_law_pick : Rowd := ⟨F_law_pick, ⟨("_law_pick", none), "_law_pick", "_law_pick", L2.defArgs (top 61), L2.defBody (top 61), L2.defScope (top 61), [], []⟩, ["dice", "things"], ["dice", "things"]⟩
theorem B_law_pick : BndOk R_law_pick := fun _ _ _ _ _ _ us hl => match us, hl with | [_, _], _ => rfl
def R_law_drawn : Rowd := ⟨F_law_drawn, ⟨("_law_drawn", none), "_law_drawn", "_law_drawn", L2.defArgs (top 69), L2.defBody (top 69), L2.defScope (top 69), [], []⟩, ["dice", "great"], ["dice"]⟩
theorem B_law_drawn : BndOk R_law_drawn := fun _ _ _ _ _ _ us hl => match us, hl with | [_], _ => rfl
def R_is_less_by : Rowd := ⟨F_is_less_by, ⟨("is_less_by", none), "is_less_by", "is_less_by", L2.defArgs (top 34), L2.defBody (top 34), L2.defScope (top 34), [], []⟩, ["one", "other"], ["one", "other"]⟩
theorem B_is_less_by : BndOk R_is_less_by := fun _ _ _ _ _ _ us hl => match us, hl with | [_, _], _ => rfl
def R_least_by : Rowd := ⟨F_least_by, ⟨("least_by", none), "least_by", "least_by", L2.defArgs (top 37), L2.defBody (top 37), L2.defScope (top 37), [], []⟩, ["numbers", "found", "one"], ["numbers"]⟩
theorem B_least_by : BndOk R_least_by := fun _ _ _ _ _ _ us hl => match us, hl with | [_], _ => rfl
def R_least_of : Rowd := ⟨F_least_of, ⟨("least_of", none), "least_of", "least_of", L2.defArgs (top 48), L2.defBody (top 48), L2.defScope (top 48), [], []⟩, ["numbers"], ["numbers"]⟩
theorem B_least_of : BndOk R_least_of := fun _ _ _ _ _ _ us hl => match us, hl with | [_], _ => rfl
def R_opposite : Rowd := ⟨F_opposite, ⟨("opposite", none), "opposite", "opposite", L2.defArgs (top 30), L2.defBody (top 30), L2.defScope (top 30), [], []⟩, ["one"], ["one"]⟩
theorem B_opposite : BndOk R_opposite := fun _ _ _ _ _ _ us hl => match us, hl with | [_], _ => rfl
def R_greatest_by : Rowd := ⟨F_greatest_by, ⟨("greatest_by", none), "greatest_by", "greatest_by", L2.defArgs (top 38), L2.defBody (top 38), L2.defScope (top 38), [], []⟩, ["numbers", "one"], ["numbers"]⟩
theorem B_greatest_by : BndOk R_greatest_by := fun _ _ _ _ _ _ us hl => match us, hl with | [_], _ => rfl
def R_greatest_of : Rowd := ⟨F_greatest_of, ⟨("greatest_of", none), "greatest_of", "greatest_of", L2.defArgs (top 49), L2.defBody (top 49), L2.defScope (top 49), [], []⟩, ["numbers"], ["numbers"]⟩
theorem B_greatest_of : BndOk R_greatest_of := fun _ _ _ _ _ _ us hl => match us, hl with | [_], _ => rfl
def R_require_fraction : Rowd := ⟨F_require_fraction, ⟨("require_fraction", none), "require_fraction", "require_fraction", L2.defArgs (top 25), L2.defBody (top 25), L2.defScope (top 25), [], []⟩, ["one"], ["one"]⟩
theorem B_require_fraction : BndOk R_require_fraction := fun _ _ _ _ _ _ us hl => match us, hl with | [_], _ => rfl
def R_require_both : Rowd := ⟨F_require_both, ⟨("require_both", none), "require_both", "require_both", L2.defArgs (top 27), L2.defBody (top 27), L2.defScope (top 27), [], []⟩, ["one", "other"], ["one", "other"]⟩
theorem B_require_both : BndOk R_require_both := fun _ _ _ _ _ _ us hl => match us, hl with | [_, _], _ => rfl
def R_multiplied : Rowd := ⟨F_multiplied, ⟨("multiplied", none), "multiplied", "multiplied", L2.defArgs (top 32), L2.defBody (top 32), L2.defScope (top 32), [], []⟩, ["one", "other"], ["one", "other"]⟩
theorem B_multiplied : BndOk R_multiplied := fun _ _ _ _ _ _ us hl => match us, hl with | [_, _], _ => rfl
def R_times : Rowd := ⟨F_times, ⟨("times", none), "times", "times", L2.defArgs (top 42), L2.defBody (top 42), L2.defScope (top 42), [], []⟩, ["one", "other"], ["one", "other"]⟩
theorem B_times : BndOk R_times := fun _ _ _ _ _ _ us hl => match us, hl with | [_, _], _ => rfl
def R_law_mc_times : Rowd := ⟨F_law_mc_times, ⟨("_law_mc_times", none), "_law_mc_times", "_law_mc_times", L2.defArgs (top 66), L2.defBody (top 66), L2.defScope (top 66), [], []⟩, ["one", "other"], ["one", "other"]⟩
theorem B_law_mc_times : BndOk R_law_mc_times := fun _ _ _ _ _ _ us hl => match us, hl with | [_, _], _ => rfl
def R_plus : Rowd := ⟨F_plus, ⟨("plus", none), "plus", "plus", L2.defArgs (top 40), L2.defBody (top 40), L2.defScope (top 40), [], []⟩, ["one", "other"], ["one", "other"]⟩
theorem B_plus : BndOk R_plus := fun _ _ _ _ _ _ us hl => match us, hl with | [_, _], _ => rfl
def R_less : Rowd := ⟨F_less, ⟨("less", none), "less", "less", L2.defArgs (top 31), L2.defBody (top 31), L2.defScope (top 31), [], []⟩, ["one", "other"], ["one", "other"]⟩
theorem B_less : BndOk R_less := fun _ _ _ _ _ _ us hl => match us, hl with | [_, _], _ => rfl
def R_minus : Rowd := ⟨F_minus, ⟨("minus", none), "minus", "minus", L2.defArgs (top 41), L2.defBody (top 41), L2.defScope (top 41), [], []⟩, ["one", "other"], ["one", "other"]⟩
theorem B_minus : BndOk R_minus := fun _ _ _ _ _ _ us hl => match us, hl with | [_, _], _ => rfl
def R_law_mc_minus : Rowd := ⟨F_law_mc_minus, ⟨("_law_mc_minus", none), "_law_mc_minus", "_law_mc_minus", L2.defArgs (top 65), L2.defBody (top 65), L2.defScope (top 65), [], []⟩, ["one", "other"], ["one", "other"]⟩
theorem B_law_mc_minus : BndOk R_law_mc_minus := fun _ _ _ _ _ _ us hl => match us, hl with | [_, _], _ => rfl
def R_is_less : Rowd := ⟨F_is_less, ⟨("is_less", none), "is_less", "is_less", L2.defArgs (top 45), L2.defBody (top 45), L2.defScope (top 45), [], []⟩, ["one", "other"], ["one", "other"]⟩
theorem B_is_less : BndOk R_is_less := fun _ _ _ _ _ _ us hl => match us, hl with | [_, _], _ => rfl
def R_sign_by : Rowd := ⟨F_sign_by, ⟨("sign_by", none), "sign_by", "sign_by", L2.defArgs (top 35), L2.defBody (top 35), L2.defScope (top 35), [], []⟩, ["one"], ["one"]⟩
theorem B_sign_by : BndOk R_sign_by := fun _ _ _ _ _ _ us hl => match us, hl with | [_], _ => rfl
def R_sign_of : Rowd := ⟨F_sign_of, ⟨("sign_of", none), "sign_of", "sign_of", L2.defArgs (top 44), L2.defBody (top 44), L2.defScope (top 44), [], []⟩, ["one"], ["one"]⟩
theorem B_sign_of : BndOk R_sign_of := fun _ _ _ _ _ _ us hl => match us, hl with | [_], _ => rfl
def R_fraction : Rowd := ⟨F_fraction, ⟨("fraction", none), "fraction", "fraction", L2.defArgs (top 39), L2.defBody (top 39), L2.defScope (top 39), [], []⟩, ["top", "below", "one"], ["top", "below"]⟩
theorem B_fraction : BndOk R_fraction := fun _ _ _ _ _ _ us hl => match us, hl with | [_, _], _ => rfl
def R_divided : Rowd := ⟨F_divided, ⟨("divided", none), "divided", "divided", L2.defArgs (top 33), L2.defBody (top 33), L2.defScope (top 33), [], []⟩, ["one", "other"], ["one", "other"]⟩
theorem B_divided : BndOk R_divided := fun _ _ _ _ _ _ us hl => match us, hl with | [_, _], _ => rfl
def R_over : Rowd := ⟨F_over, ⟨("over", none), "over", "over", L2.defArgs (top 43), L2.defBody (top 43), L2.defScope (top 43), [], []⟩, ["one", "other"], ["one", "other"]⟩
theorem B_over : BndOk R_over := fun _ _ _ _ _ _ us hl => match us, hl with | [_, _], _ => rfl
def R_law_mc_over : Rowd := ⟨F_law_mc_over, ⟨("_law_mc_over", none), "_law_mc_over", "_law_mc_over", L2.defArgs (top 67), L2.defBody (top 67), L2.defScope (top 67), [], []⟩, ["one", "other"], ["one", "other"]⟩
theorem B_law_mc_over : BndOk R_law_mc_over := fun _ _ _ _ _ _ us hl => match us, hl with | [_, _], _ => rfl
def R_law_two_right : Rowd := ⟨F_law_two_right, ⟨("_law_two_right", none), "_law_two_right", "_law_two_right", L2.defArgs (top 71), L2.defBody (top 71), L2.defScope (top 71), [], []⟩, ["dice", "one", "other", "less_v"], ["dice", "one", "other"]⟩
theorem B_law_two_right : BndOk R_law_two_right := fun _ _ _ _ _ _ us hl => match us, hl with | [_, _, _], _ => rfl
def R_floor_of : Rowd := ⟨F_floor_of, ⟨("floor_of", none), "floor_of", "floor_of", L2.defArgs (top 51), L2.defBody (top 51), L2.defScope (top 51), [], []⟩, ["one"], ["one"]⟩
theorem B_floor_of : BndOk R_floor_of := fun _ _ _ _ _ _ us hl => match us, hl with | [_], _ => rfl
def R_great_step : Rowd := ⟨F_great_step, ⟨("great_step", none), "great_step", "great_step", L2.defArgs (top 14), L2.defBody (top 14), L2.defScope (top 14), [], []⟩, [], []⟩
theorem B_great_step : BndOk R_great_step := fun _ _ _ _ _ _ us hl => match us, hl with | [], _ => rfl
def R_digits_text : Rowd := ⟨F_digits_text, ⟨("digits_text", none), "digits_text", "digits_text", L2.defArgs (top 15), L2.defBody (top 15), L2.defScope (top 15), [], []⟩, ["number", "step", "parts", "left", "rest"], ["number"]⟩
theorem B_digits_text : BndOk R_digits_text := fun _ _ _ _ _ _ us hl => match us, hl with | [_], _ => rfl
def R_number_text : Rowd := ⟨F_number_text, ⟨("number_text", none), "number_text", "number_text", L2.defArgs (top 16), L2.defBody (top 16), L2.defScope (top 16), [], []⟩, ["number"], ["number"]⟩
theorem B_number_text : BndOk R_number_text := fun _ _ _ _ _ _ us hl => match us, hl with | [_], _ => rfl
def R_text_by : Rowd := ⟨F_text_by, ⟨("text_by", none), "text_by", "text_by", L2.defArgs (top 54), L2.defBody (top 54), L2.defScope (top 54), [], []⟩, ["one"], ["one"]⟩
theorem B_text_by : BndOk R_text_by := fun _ _ _ _ _ _ us hl => match us, hl with | [_], _ => rfl
def R_fraction_text : Rowd := ⟨F_fraction_text, ⟨("fraction_text", none), "fraction_text", "fraction_text", L2.defArgs (top 56), L2.defBody (top 56), L2.defScope (top 56), [], []⟩, ["one"], ["one"]⟩
theorem B_fraction_text : BndOk R_fraction_text := fun _ _ _ _ _ _ us hl => match us, hl with | [_], _ => rfl
def R_law_text : Rowd := ⟨F_law_text, ⟨("_law_text", none), "_law_text", "_law_text", L2.defArgs (top 70), L2.defBody (top 70), L2.defScope (top 70), [], []⟩, ["one"], ["one"]⟩
theorem B_law_text : BndOk R_law_text := fun _ _ _ _ _ _ us hl => match us, hl with | [_], _ => rfl
def R_digits_in : Rowd := ⟨F_digits_in, ⟨("digits_in", none), "digits_in", "digits_in", L2.defArgs (top 17), L2.defBody (top 17), L2.defScope (top 17), [], []⟩, ["text", "at", "first", "found", "step", "sign"], ["text"]⟩
theorem B_digits_in : BndOk R_digits_in := fun _ _ _ _ _ _ us hl => match us, hl with | [_], _ => rfl
def R_number_in : Rowd := ⟨F_number_in, ⟨("number_in", none), "number_in", "number_in", L2.defArgs (top 18), L2.defBody (top 18), L2.defScope (top 18), [], []⟩, ["text", "found"], ["text"]⟩
theorem B_number_in : BndOk R_number_in := fun _ _ _ _ _ _ us hl => match us, hl with | [_], _ => rfl
def R_number_by : Rowd := ⟨F_number_by, ⟨("number_by", none), "number_by", "number_by", L2.defArgs (top 55), L2.defBody (top 55), L2.defScope (top 55), [], []⟩, ["text", "parts", "top", "below"], ["text"]⟩
theorem B_number_by : BndOk R_number_by := fun _ _ _ _ _ _ us hl => match us, hl with | [_], _ => rfl
def R_fraction_in : Rowd := ⟨F_fraction_in, ⟨("fraction_in", none), "fraction_in", "fraction_in", L2.defArgs (top 57), L2.defBody (top 57), L2.defScope (top 57), [], []⟩, ["text", "found"], ["text"]⟩
theorem B_fraction_in : BndOk R_fraction_in := fun _ _ _ _ _ _ us hl => match us, hl with | [_], _ => rfl
def R_is_count : Rowd := ⟨F_is_count, ⟨("is_count", none), "is_count", "is_count", L2.defArgs (top 9), L2.defBody (top 9), L2.defScope (top 9), [], []⟩, ["value", "least", "most"], ["value", "least", "most"]⟩
theorem B_is_count : BndOk R_is_count := fun _ _ _ _ _ _ us hl => match us, hl with | [_, _, _], _ => rfl
def R_require_count : Rowd := ⟨F_require_count, ⟨("require_count", none), "require_count", "require_count", L2.defArgs (top 10), L2.defBody (top 10), L2.defScope (top 10), [], []⟩, ["value", "least", "most"], ["value", "least", "most"]⟩
theorem B_require_count : BndOk R_require_count := fun _ _ _ _ _ _ us hl => match us, hl with | [_, _, _], _ => rfl
def R_power : Rowd := ⟨F_power, ⟨("power", none), "power", "power", L2.defArgs (top 50), L2.defBody (top 50), L2.defScope (top 50), [], []⟩, ["one", "many", "found", "_"], ["one", "many"]⟩
theorem B_power : BndOk R_power := fun _ _ _ _ _ _ us hl => match us, hl with | [_, _], _ => rfl
def R_law_one_right : Rowd := ⟨F_law_one_right, ⟨("_law_one_right", none), "_law_one_right", "_law_one_right", L2.defArgs (top 72), L2.defBody (top 72), L2.defScope (top 72), [], []⟩, ["dice", "one", "due", "turn", "near", "floor", "many", "value"], ["dice", "one"]⟩
theorem B_law_one_right : BndOk R_law_one_right := fun _ _ _ _ _ _ us hl => match us, hl with | [_, _], _ => rfl
def R_law_mc_at_most : Rowd := ⟨F_law_mc_at_most, ⟨("_law_mc_at_most", none), "_law_mc_at_most", "_law_mc_at_most", L2.defArgs (top 68), L2.defBody (top 68), L2.defScope (top 68), [], []⟩, ["one", "other"], ["one", "other"]⟩
theorem B_law_mc_at_most : BndOk R_law_mc_at_most := fun _ _ _ _ _ _ us hl => match us, hl with | [_, _], _ => rfl
def R_simplest_from : Rowd := ⟨F_simplest_from, ⟨("simplest_from", none), "simplest_from", "simplest_from", L2.defArgs (top 52), L2.defBody (top 52), L2.defScope (top 52), [], []⟩, ["one", "other", "wholes", "found", "whole"], ["one", "other"]⟩
theorem B_simplest_from : BndOk R_simplest_from := fun _ _ _ _ _ _ us hl => match us, hl with | [_, _], _ => rfl
def R_simplest_between : Rowd := ⟨F_simplest_between, ⟨("simplest_between", none), "simplest_between", "simplest_between", L2.defArgs (top 53), L2.defBody (top 53), L2.defScope (top 53), [], []⟩, ["one", "other"], ["one", "other"]⟩
theorem B_simplest_between : BndOk R_simplest_between := fun _ _ _ _ _ _ us hl => match us, hl with | [_, _], _ => rfl
def R_law_simple_right : Rowd := ⟨F_law_simple_right, ⟨("_law_simple_right", none), "_law_simple_right", "_law_simple_right", L2.defArgs (top 73), L2.defBody (top 73), L2.defScope (top 73), [], []⟩, ["dice", "below", "one", "other", "tops", "size", "due", "top"], ["dice"]⟩
theorem B_law_simple_right : BndOk R_law_simple_right := fun _ _ _ _ _ _ us hl => match us, hl with | [_], _ => rfl
def R_law : Rowd := ⟨F_law, ⟨("law", none), "law", "law", L2.defArgs (top 74), L2.defBody (top 74), L2.defScope (top 74), [], []⟩, ["script", "spot", "dice", "turn", "some", "one", "total", "least", "most", "other"], ["script"]⟩
theorem B_law : BndOk R_law := fun _ _ _ _ _ _ us hl => match us, hl with | [_], _ => rfl
def rows : List Rowd := [R_law_dice, R_law_mc_gcd, R_law_mc_fr, R_law_mc_plus, R_common_by, R_made, R_added, R_sum_by, R_is_integer, R_is_fraction, R_are_fractions, R_require_numbers, R_sum_of, R_law_roll, R_law_pick, R_law_drawn, R_is_less_by, R_least_by, R_least_of, R_opposite, R_greatest_by, R_greatest_of, R_require_fraction, R_require_both, R_multiplied, R_times, R_law_mc_times, R_plus, R_less, R_minus, R_law_mc_minus, R_is_less, R_sign_by, R_sign_of, R_fraction, R_divided, R_over, R_law_mc_over, R_law_two_right, R_floor_of, R_great_step, R_digits_text, R_number_text, R_text_by, R_fraction_text, R_law_text, R_digits_in, R_number_in, R_number_by, R_fraction_in, R_is_count, R_require_count, R_power, R_law_one_right, R_law_mc_at_most, R_simplest_from, R_simplest_between, R_law_simple_right, R_law]
def cons : List Str := ["NOUGHT", "DIGITS", "SIGNS", "MAX_POWER", "ONE"]
theorem rows_fns : rows.map (·.f) = fns := rfl
theorem rows_plain : rows.all plainD = true := by decide +kernel
theorem rows_ok : rows.all (rowB (rows.map (·.d.at_.1)) cons) = true := by decide +kernel
theorem rows_bnd : ∀ r ∈ rows, BndOk r := by
  intro r h
  simp only [rows, List.mem_cons, List.not_mem_nil, or_false] at h
  rcases h with rfl | rfl | rfl | rfl | rfl | rfl | rfl | rfl | rfl | rfl | rfl | rfl | rfl | rfl | rfl | rfl | rfl | rfl | rfl | rfl | rfl | rfl | rfl | rfl | rfl | rfl | rfl | rfl | rfl | rfl | rfl | rfl | rfl | rfl | rfl | rfl | rfl | rfl | rfl | rfl | rfl | rfl | rfl | rfl | rfl | rfl | rfl | rfl | rfl | rfl | rfl | rfl | rfl | rfl | rfl | rfl | rfl | rfl | rfl
  · exact B_law_dice
  · exact B_law_mc_gcd
  · exact B_law_mc_fr
  · exact B_law_mc_plus
  · exact B_common_by
  · exact B_made
  · exact B_added
  · exact B_sum_by
  · exact B_is_integer
  · exact B_is_fraction
  · exact B_are_fractions
  · exact B_require_numbers
  · exact B_sum_of
  · exact B_law_roll
  · exact B_law_pick
  · exact B_law_drawn
  · exact B_is_less_by
  · exact B_least_by
  · exact B_least_of
  · exact B_opposite
  · exact B_greatest_by
  · exact B_greatest_of
  · exact B_require_fraction
  · exact B_require_both
  · exact B_multiplied
  · exact B_times
  · exact B_law_mc_times
  · exact B_plus
  · exact B_less
  · exact B_minus
  · exact B_law_mc_minus
  · exact B_is_less
  · exact B_sign_by
  · exact B_sign_of
  · exact B_fraction
  · exact B_divided
  · exact B_over
  · exact B_law_mc_over
  · exact B_law_two_right
  · exact B_floor_of
  · exact B_great_step
  · exact B_digits_text
  · exact B_number_text
  · exact B_text_by
  · exact B_fraction_text
  · exact B_law_text
  · exact B_digits_in
  · exact B_number_in
  · exact B_number_by
  · exact B_fraction_in
  · exact B_is_count
  · exact B_require_count
  · exact B_power
  · exact B_law_one_right
  · exact B_law_mc_at_most
  · exact B_simplest_from
  · exact B_simplest_between
  · exact B_law_simple_right
  · exact B_law
end LW
/- index: 0 _law_dice 1 _law_mc_gcd 2 _law_mc_fr 3 _law_mc_plus 4 common_by 5 made 6 added 7 sum_by 8 is_integer 9 is_fraction 10 are_fractions 11 require_numbers 12 sum_of 13 _law_roll 14 _law_pick 15 _law_drawn 16 is_less_by 17 least_by 18 least_of 19 opposite 20 greatest_by 21 greatest_of 22 require_fraction 23 require_both 24 multiplied 25 times 26 _law_mc_times 27 plus 28 less 29 minus 30 _law_mc_minus 31 is_less 32 sign_by 33 sign_of 34 fraction 35 divided 36 over 37 _law_mc_over 38 _law_two_right 39 floor_of 40 great_step 41 digits_text 42 number_text 43 text_by 44 fraction_text 45 _law_text 46 digits_in 47 number_in 48 number_by 49 fraction_in 50 is_count 51 require_count 52 power 53 _law_one_right 54 _law_mc_at_most 55 simplest_from 56 simplest_between 57 _law_simple_right 58 law; law at top 74 -/
namespace LW
open PySem PySem.Spec PyProof.Rows L2 DL
def loose0 : List Str := ["__name__", "RunError", "InvalidFraction", "InvalidText", "InvalidOperation", "InvalidCount", "Refused", "is_integer", "is_count", "require_count", "DIGITS", "SIGNS", "great_step", "digits_text", "number_text", "digits_in", "number_in", "NOUGHT", "ONE", "MAX_POWER"]
def loose1 : List Str := ["common_by", "is_fraction", "require_fraction", "are_fractions", "require_both", "made", "added", "opposite", "less", "multiplied", "divided", "is_less_by", "sign_by", "sum_by", "least_by", "greatest_by", "fraction", "plus", "minus", "times"]
def loose2 : List Str := ["over", "sign_of", "is_less", "require_numbers", "sum_of", "least_of", "greatest_of", "power", "floor_of", "simplest_from", "simplest_between", "text_by", "number_by", "fraction_text", "fraction_in", "_law_dice", "_law_roll", "_law_pick", "_law_mc_gcd", "_law_mc_fr"]
def loose3 : List Str := ["_law_mc_plus", "_law_mc_minus", "_law_mc_times", "_law_mc_over", "_law_mc_at_most", "_law_drawn", "_law_text", "_law_two_right", "_law_one_right", "_law_simple_right"]
def loose : List Str := loose0 ++ loose1 ++ loose2 ++ loose3
end LW
open PySem PySem.W PySem.Calls PyProof.Rows
namespace LW
abbrev RW : OpenRow := OpenLaw.row PySem.Challenge.rw_meanclouds_k21_whole_fractions
abbrev qv : Program := view RW.prog [74]
abbrev hk : Hook := DL.hookL 2 (DL.faOf rows) (rows.map (·.d)) (DL.exB cons gcons)
def ob (s : SharedT) : He.AlD × Bool := DL.obsL 2 (DL.faOf rows) (rows.map (·.d)) (DL.exB cons gcons) (HandSHeadRun.getT s)
theorem ob_eq (s : SharedT) : ob s = hk.obs s.abs := DL.obsL_eq (HandSHeadRun.getT_eq s)
theorem run (w : World) : HandSHeadRun.RunEq RW qv hk ob 8000 loose w := by
  intro os
  kernel_rfl
end LW
end
section
set_option Elab.async false
set_option autoImplicit false
set_option linter.all false
set_option maxRecDepth 100000
set_option maxHeartbeats 2000000
/-! Q0: fractions as data. -/
namespace DL
/-! ### the loop of the greatest common divisor -/
abbrev gT : T := .cmp .gt (.slot 1) (.con (.int 0))
abbrev gB : List St := [.asg (.tp [.nm 0, .nm 1]) (.tup [.slot 1, .bin .mod (.slot 0) (.slot 1)])]
section
variable {cl : Cl} {gc : List D} {S : Store}
theorem g_test (a b : Nat) : evT cl gc gT [some (.int a), some (.int b)] S = .ok (decide (0 < b)) S := by
  simp [cmp2, cpInt]
theorem g_body (a b : Nat) (h : 0 < b) : evB cl gc gB [some (.int a), some (.int b)] S = .nx [some (.int b), some (.int (a % b : Nat))] S := by
  have hb : (b : Int) ≠ 0 := by omega
  have e : (a : Int).fmod (b : Int) = ((a % b : Nat) : Int) := by
    rw [Int.fmod_eq_emod_of_nonneg _ (by omega)]; simp
  have hb' : b ≠ 0 := by omega
  simp [op2, opMod, hb', e, fits, bigN]
theorem gcd_loop : ∀ (m fuel a b : Nat), b < 2 ^ m → 2 * m + 1 ≤ fuel → whGo (evT cl gc gT) (evB cl gc gB) fuel [some (.int a), some (.int b)] S = .nx [some (.int (Nat.gcd a b : Nat)), some (.int (0 : Nat))] S
  | 0, fuel, a, b, hb, hf => by
    have e : b = 0 := by simpa using hb
    subst e
    obtain ⟨f, rfl⟩ : ∃ f, fuel = f + 1 := ⟨fuel - 1, by omega⟩
    rw [whGo, g_test]; simp
  | m + 1, fuel, a, b, hb, hf => by
    obtain ⟨f, rfl⟩ : ∃ f, fuel = f + 1 := ⟨fuel - 1, by omega⟩
    by_cases h0 : b = 0
    · subst h0
      rw [whGo, g_test]; simp
    have hb0 : 0 < b := Nat.pos_of_ne_zero h0
    rw [whGo, g_test]
    simp only [x_stm, decide_eq_true hb0, g_body a b hb0]
    obtain ⟨f, rfl⟩ : ∃ g, f = g + 1 := ⟨f - 1, by omega⟩
    have e1 : Nat.gcd a b = Nat.gcd b (a % b) := by rw [Nat.gcd_comm a b, Nat.gcd_rec b a, Nat.gcd_comm]
    by_cases hc : a % b = 0
    · rw [whGo, g_test, hc]
      simp only [x_stm, Nat.lt_irrefl, decide_false]
      rw [e1, hc, Nat.gcd_zero_right]
    have hc0 : 0 < a % b := Nat.pos_of_ne_zero hc
    have hlt : a % b < b := Nat.mod_lt _ hb0
    rw [whGo, g_test]
    simp only [x_stm, decide_eq_true hc0, g_body b (a % b) hc0]
    rw [gcd_loop m f (a % b) (b % (a % b)) ?_ (by omega)]
    · rw [e1, Nat.gcd_comm b, Nat.gcd_rec (a % b) b, Nat.gcd_comm]
    · have h1 : b % (a % b) < a % b := Nat.mod_lt _ hc0
      have h2 : b % (a % b) + (a % b) ≤ b := by
        have := Nat.div_add_mod b (a % b)
        have h3 : 1 ≤ b / (a % b) := Nat.div_pos (Nat.le_of_lt hlt) hc0
        have h4 : (a % b) * 1 ≤ (a % b) * (b / (a % b)) := Nat.mul_le_mul_left _ h3
        omega
      have h5 : 2 ^ (m + 1) = 2 * 2 ^ m := by rw [Nat.pow_succ]; omega
      omega
end
/-! ### fractions -/
def fr (q : Rat) : D := .tup [.int q.num, .int q.den]
/-- not too great -/
def Sm (n : Nat) (q : Rat) : Prop := q.num.natAbs < 2 ^ n ∧ q.den < 2 ^ n
theorem Sm.mono {m n : Nat} {q : Rat} (h : Sm m q) (k : m ≤ n) : Sm n q :=
  ⟨Nat.lt_of_lt_of_le h.1 (Nat.pow_le_pow_right (by decide) k), Nat.lt_of_lt_of_le h.2 (Nat.pow_le_pow_right (by decide) k)⟩
theorem fr_inj {p q : Rat} (h : fr p = fr q) : p = q := by
  unfold fr at h
  injection h with h
  injection h with h1 h2
  injection h1 with h1
  injection h2 with h2 _
  injection h2 with h2
  exact Rat.ext h1 (by omega)
theorem eqv_fr (p q : Rat) : eqv (fr p) (fr q) = decide (p = q) := by
  simp only [fr, eqv, eqvs, Bool.and_true]
  by_cases h : p = q
  · subst h; simp
  · rw [decide_eq_false h]
    by_cases h1 : p.num = q.num
    · have h2 : (p.den : Int) ≠ q.den := fun e => h (Rat.ext h1 (by omega))
      simp [h1, h2]
    · simp [h1]
theorem plain_fr (n : Nat) (q : Rat) : plain (n + 1) (fr q) = true := by
  simp [fr, plain, plains]
/-- a quotient in lowest terms -/
theorem mk_num (a : Int) (b : Nat) (hb : b ≠ 0) : (mkRat a b).num = a.fdiv (Nat.gcd a.natAbs b : Nat) ∧ (((mkRat a b).den : Nat) : Int) = (b : Int).fdiv (Nat.gcd a.natAbs b : Nat) := by
  rw [Rat.mkRat_def, dif_neg hb, Rat.normalize_eq]
  refine ⟨?_, ?_⟩
  · rw [Int.fdiv_eq_ediv_of_nonneg _ (by omega)]
  · rw [Int.fdiv_eq_ediv_of_nonneg _ (by omega)]; simp
theorem mk_small {a : Int} {b n : Nat} (ha : a.natAbs < 2 ^ n) (hb : b < 2 ^ n) (h0 : b ≠ 0) : Sm n (mkRat a b) := by
  rw [Rat.mkRat_def, dif_neg h0, Rat.normalize_eq]
  refine ⟨?_, Nat.lt_of_le_of_lt (Nat.div_le_self _ _) hb⟩
  show (a / _).natAbs < _
  rw [Int.natAbs_ediv_of_dvd (Int.ofNat_dvd_left.mpr (Nat.gcd_dvd_left _ _))]
  exact Nat.lt_of_le_of_lt (Nat.div_le_self _ _) ha
theorem add_small {p q : Rat} {m n : Nat} (hp : Sm m p) (hq : Sm n q) : (p.num * q.den + q.num * p.den).natAbs < 2 ^ (m + n + 1) ∧ p.den * q.den < 2 ^ (m + n + 1) := by
  have e : 2 ^ (m + n + 1) = 2 ^ m * 2 ^ n + 2 ^ m * 2 ^ n := by rw [Nat.pow_succ, Nat.pow_add]; omega
  have h1 : p.num.natAbs * q.den < 2 ^ m * 2 ^ n := Nat.mul_lt_mul'' hp.1 hq.2
  have h2 : q.num.natAbs * p.den < 2 ^ n * 2 ^ m := Nat.mul_lt_mul'' hq.1 hp.2
  have h3 : p.den * q.den < 2 ^ m * 2 ^ n := Nat.mul_lt_mul'' hp.2 hq.2
  have h4 := Int.natAbs_add_le (p.num * q.den) (q.num * p.den)
  rw [Int.natAbs_mul, Int.natAbs_mul, Int.natAbs_natCast, Int.natAbs_natCast] at h4
  rw [Nat.mul_comm (2 ^ n)] at h2
  rw [e]
  omega
theorem mul_small {p q : Rat} {m n : Nat} (hp : Sm m p) (hq : Sm n q) : (p.num * q.num).natAbs < 2 ^ (m + n) ∧ p.den * q.den < 2 ^ (m + n) := by
  rw [Nat.pow_add, Int.natAbs_mul]
  exact ⟨Nat.mul_lt_mul'' hp.1 hq.1, Nat.mul_lt_mul'' hp.2 hq.2⟩
theorem Sm.add {p q : Rat} {m n : Nat} (hp : Sm m p) (hq : Sm n q) : Sm (m + n + 1) (p + q) := by
  rw [Rat.add_def']
  exact mk_small (add_small hp hq).1 (add_small hp hq).2 (Nat.mul_ne_zero p.den_nz q.den_nz)
theorem Sm.mul {p q : Rat} {m n : Nat} (hp : Sm m p) (hq : Sm n q) : Sm (m + n) (p * q) := by
  rw [Rat.mul_def']
  exact mk_small (mul_small hp hq).1 (mul_small hp hq).2 (Nat.mul_ne_zero p.den_nz q.den_nz)
theorem Sm.neg {p : Rat} {m : Nat} (hp : Sm m p) : Sm m (-p) := by
  refine ⟨?_, hp.2⟩
  rw [Rat.neg_num, Int.natAbs_neg]; exact hp.1
theorem log_of {n k : Nat} (h : n < 2 ^ k) (hk : 0 < k) : n.log2 < k := by
  by_cases h0 : n = 0
  · subst h0; simpa using hk
  · exact (Nat.log2_lt h0).mpr h
end DL
end
section
set_option Elab.async false
set_option autoImplicit false
set_option linter.all false
set_option maxRecDepth 100000
set_option maxHeartbeats 2000000
/-! P1: operators on known shapes. -/
namespace DL
section
variable {S : Store} {i j : Int} {p q : Rat}
@[simp] theorem c_eqI : cmp2 .eq (.int i) (.int j) S = .ok (decide (i = j)) S := by
  have : cmp2 .eq (.int i) (.int j) S = .ok (i == j) S := by
    show cpEq (.int i) (.int j) S = _
    simp [cpEq, deref, plain, eqv]
  rw [this]
  by_cases h : i = j <;> simp [h]
@[simp] theorem c_neI : cmp2 .ne (.int i) (.int j) S = .ok (!decide (i = j)) S := by
  have : cmp2 .ne (.int i) (.int j) S = (cmp2 .eq (.int i) (.int j) S).bind fun b S => .ok (!b) S := rfl
  rw [this, c_eqI]; rfl
@[simp] theorem c_ltI : cmp2 .lt (.int i) (.int j) S = .ok (decide (i < j)) S := Eq.trans rfl rfl
@[simp] theorem c_leI : cmp2 .le (.int i) (.int j) S = .ok (decide (i ≤ j)) S := Eq.trans rfl rfl
@[simp] theorem c_gtI : cmp2 .gt (.int i) (.int j) S = .ok (decide (j < i)) S := Eq.trans rfl rfl
@[simp] theorem c_geI : cmp2 .ge (.int i) (.int j) S = .ok (decide (j ≤ i)) S := Eq.trans rfl rfl
theorem c_eq {x y : D} (hx : deref S x = x) (hy : deref S y = y) (px : plain 60 x = true) (py : plain 60 y = true) : cmp2 .eq x y S = .ok (eqv x y) S := by
  show cpEq _ _ _ = _
  simp [cpEq, hx, hy, px, py]
theorem c_ne {x y : D} (hx : deref S x = x) (hy : deref S y = y) (px : plain 60 x = true) (py : plain 60 y = true) : cmp2 .ne x y S = .ok (!eqv x y) S := by
  have : cmp2 .ne x y S = (cmp2 .eq x y S).bind fun b S => .ok (!b) S := rfl
  rw [this, c_eq hx hy px py]; rfl
@[simp] theorem c_eqF : cmp2 .eq (fr p) (fr q) S = .ok (decide (p = q)) S := by
  rw [c_eq rfl rfl (plain_fr 59 p) (plain_fr 59 q), eqv_fr]
@[simp] theorem c_neF : cmp2 .ne (fr p) (fr q) S = .ok (!decide (p = q)) S := by
  rw [c_ne rfl rfl (plain_fr 59 p) (plain_fr 59 q), eqv_fr]
@[simp] theorem o_addI : op2 .add (.int i) (.int j) S = .ok (.int (i + j)) S := Eq.trans rfl rfl
@[simp] theorem o_subI : op2 .sub (.int i) (.int j) S = .ok (.int (i - j)) S := Eq.trans rfl rfl
@[simp] theorem t_bl {b : Bool} : truth (.bl b) S = .ok b S := Eq.trans rfl rfl
@[simp] theorem t_int : truth (.int i) S = .ok (decide (i ≠ 0)) S := by
  show Out.ok (i != 0) S = _
  congr 1
  by_cases h : i = 0 <;> simp [h]
@[simp] theorem i_fr0 : item (fr p) (.int 0) S = .ok (.int p.num) S := Eq.trans rfl rfl
@[simp] theorem i_fr1 : item (fr p) (.int 1) S = .ok (.int p.den) S := Eq.trans rfl rfl
@[simp] theorem b_isi (ts : List Ty) (d : D) : bi (.isi ts) [d] S = isD ts d S := Eq.trans rfl rfl
@[simp] theorem b_len (d : D) : bi .len [d] S = lenD d S := Eq.trans rfl rfl
@[simp] theorem b_abs (d : D) : bi .abs [d] S = absD d S := Eq.trans rfl rfl
@[simp] theorem b_all (d : D) : bi .all [d] S = allD d S := Eq.trans rfl rfl
@[simp] theorem b_any (d : D) : bi .any [d] S = anyD d S := Eq.trans rfl rfl
@[simp] theorem b_int (d : D) : bi .int [d] S = intD d S := Eq.trans rfl rfl
@[simp] theorem b_str (d : D) : bi .str [d] S = strD d S := Eq.trans rfl rfl
@[simp] theorem b_list (d : D) : bi .list [d] S = listD d S := Eq.trans rfl rfl
@[simp] theorem b_tuple (d : D) : bi .tuple [d] S = tupleD d S := Eq.trans rfl rfl
@[simp] theorem b_max (d e : D) : bi .max [d, e] S = maxD d e S := Eq.trans rfl rfl
@[simp] theorem b_min (d e : D) : bi .min [d, e] S = minD d e S := Eq.trans rfl rfl
@[simp] theorem b_divmod (d e : D) : bi .divmod [d, e] S = divmodD d e S := Eq.trans rfl rfl
@[simp] theorem l_tup (xs : List D) : lenD (.tup xs) S = .ok (.int xs.length) S := Eq.trans rfl rfl
@[simp] theorem l_lst (xs : List D) : lenD (.lst xs) S = .ok (.int xs.length) S := Eq.trans rfl rfl
@[simp] theorem l_fr : lenD (fr p) S = .ok (.int 2) S := Eq.trans rfl rfl
@[simp] theorem is_tup (ts : List Ty) (xs : List D) : isD ts (.tup xs) S = .ok (.bl (ts.any fun t => tyIs (.tup xs) t)) S := Eq.trans rfl rfl
@[simp] theorem is_int (ts : List Ty) : isD ts (.int i) S = .ok (.bl (ts.any fun t => tyIs (.int i) t)) S := Eq.trans rfl rfl
@[simp] theorem is_bl (ts : List Ty) (b : Bool) : isD ts (.bl b) S = .ok (.bl (ts.any fun t => tyIs (.bl b) t)) S := Eq.trans rfl rfl
@[simp] theorem is_non (ts : List Ty) : isD ts .non S = .ok (.bl (ts.any fun t => tyIs .non t)) S := Eq.trans rfl rfl
@[simp] theorem is_str (ts : List Ty) (x : List Nat) : isD ts (.str x) S = .ok (.bl (ts.any fun t => tyIs (.str x) t)) S := Eq.trans rfl rfl
@[simp] theorem is_lst (ts : List Ty) (xs : List D) : isD ts (.lst xs) S = .ok (.bl (ts.any fun t => tyIs (.lst xs) t)) S := Eq.trans rfl rfl
@[simp] theorem is_dic (ts : List Ty) : isD ts .dic S = .ok (.bl (ts.any fun t => tyIs .dic t)) S := Eq.trans rfl rfl
@[simp] theorem is_fr (ts : List Ty) : isD ts (fr p) S = .ok (.bl (ts.any fun t => tyIs (.tup []) t)) S := by
  have : tyIs (fr p) = tyIs (.tup []) := by funext t; cases t <;> rfl
  show Out.ok (D.bl (ts.any fun t => tyIs (fr p) t)) S = _
  rw [this]
@[simp] theorem w_tup (xs : List D) : walk (.tup xs) S = some xs := Eq.trans rfl rfl
@[simp] theorem w_lst (xs : List D) : walk (.lst xs) S = some xs := Eq.trans rfl rfl
@[simp] theorem w_str (x : List Nat) : walk (.str x) S = some (charsD x) := Eq.trans rfl rfl
@[simp] theorem w_fr : walk (fr p) S = some [.int p.num, .int p.den] := Eq.trans rfl rfl
@[simp] theorem oi_some (xs : List D) : oItems (some xs) S = .ok xs S := Eq.trans rfl rfl
@[simp] theorem all_lst (xs : List D) (bs : List Bool) (h : boolsOf xs = some bs) : allD (.lst xs) S = .ok (.bl (bs.all id)) S := by
  show (match (lOf (.lst xs) S).bind boolsOf with | some bs => Out.ok (D.bl (bs.all id)) S | none => .bad) = _
  simp [lOf, h]
@[simp] theorem tup_of_lst (xs : List D) : tupleD (.lst xs) S = .ok (.tup xs) S := Eq.trans rfl rfl
@[simp] theorem tup_of_tup (xs : List D) : tupleD (.tup xs) S = .ok (.tup xs) S := Eq.trans rfl rfl
@[simp] theorem lst_of_tup (xs : List D) : listD (.tup xs) S = .ok (.lst xs) S := Eq.trans rfl rfl
theorem fits_le {n : Nat} (h : n ≤ 16777216) : fits n = true := Nat.ble_eq_true_of_le h
/-! a comprehension whose items are made one by one -/
theorem comp_map {tg : Tg} {elt : Env → Store → Out D} {σ : Env} (f : D → D) (ok : ∀ d, Env) : ∀ (ds : List D) (acc : List D) (S : Store), (∀ d ∈ ds, asg tg d σ = some (ok d) ∧ elt (ok d) S = .ok (f d) S) → acc.length + ds.length ≤ bigN →
    compGo tg (fun _ S => .ok true S) elt σ ds acc S = .ok (.lst (acc.reverse ++ ds.map f)) S
  | [], acc, S, h, hl => by simp [compGo]
  | d :: ds, acc, S, h, hl => by
    obtain ⟨h1, h2⟩ := h d List.mem_cons_self
    rw [compGo, h1]
    simp only [h2]
    rw [if_pos (Nat.ble_eq_true_of_le (by simp at hl; omega)), comp_map f ok ds (f d :: acc) S (fun e he => h e (List.mem_cons_of_mem _ he)) (by simp at hl ⊢; omega)]
    simp
end
end DL
end
section
set_option Elab.async false
set_option autoImplicit false
set_option linter.all false
set_option maxRecDepth 100000
set_option maxHeartbeats 2000000
/-! P2: rows, forms, comprehensions. -/
namespace DL
/-! ### comprehensions -/
theorem comp_of {α : Type} {tg : Tg} {test : Env → Store → Out Bool} {elt : Env → Store → Out D} {σ : Env} (enc h : α → D) (ok : α → Env) (ht : ∀ σ S, test σ S = .ok true S) (S : Store) : ∀ (xs : List α) (acc : List D),
    (∀ x ∈ xs, asg tg (enc x) σ = some (ok x) ∧ elt (ok x) S = .ok (h x) S) → acc.length + xs.length ≤ bigN →
    compGo tg test elt σ (xs.map enc) acc S = .ok (.lst (acc.reverse ++ xs.map h)) S
  | [], acc, hx, hl => by simp [compGo]
  | x :: xs, acc, hx, hl => by
    obtain ⟨h1, h2⟩ := hx x List.mem_cons_self
    rw [List.map_cons, compGo, h1]
    simp only [ht, h2]
    rw [if_pos (Nat.ble_eq_true_of_le (by simp at hl; omega)), comp_of enc h ok ht S xs (h x :: acc) (fun e he => hx e (List.mem_cons_of_mem _ he)) (by simp at hl ⊢; omega)]
    simp
theorem comp_if {α : Type} {tg : Tg} {test : Env → Store → Out Bool} {elt : Env → Store → Out D} {σ : Env} (enc h : α → D) (ok : α → Env) (b : α → Bool) (S : Store) : ∀ (xs : List α) (acc : List D),
    (∀ x ∈ xs, asg tg (enc x) σ = some (ok x) ∧ test (ok x) S = .ok (b x) S ∧ elt (ok x) S = .ok (h x) S) → acc.length + xs.length ≤ bigN →
    compGo tg test elt σ (xs.map enc) acc S = .ok (.lst (acc.reverse ++ (xs.filter b).map h)) S
  | [], acc, hx, hl => by simp [compGo]
  | x :: xs, acc, hx, hl => by
    obtain ⟨h1, h2, h3⟩ := hx x List.mem_cons_self
    rw [List.map_cons, compGo, h1]
    simp only [h2]
    cases hb : b x with
    | true =>
      simp only [h3]
      rw [if_pos (Nat.ble_eq_true_of_le (by simp at hl; omega)), comp_if enc h ok b S xs (h x :: acc) (fun e he => hx e (List.mem_cons_of_mem _ he)) (by simp at hl ⊢; omega)]
      simp [hb]
    | false =>
      simp only []
      rw [comp_if enc h ok b S xs acc (fun e he => hx e (List.mem_cons_of_mem _ he)) (by simp at hl; omega)]
      simp [hb]
/-- items that are drawn -/
theorem comp_ex {tg : Tg} {test : Env → Store → Out Bool} {elt : Env → Store → Out D} {σ : Env} (ht : ∀ σ S, test σ S = .ok true S) (Pr : D → Prop) (Inv : Nat → Store → Prop) (m : Nat) : ∀ (ds acc : List D) (S : Store),
    (∀ d ∈ ds, ∀ m S, Inv (m + 1) S → ∃ σ2 v S', asg tg d σ = some σ2 ∧ elt σ2 S = .ok v S' ∧ Pr v ∧ Inv m S') → Inv (m + ds.length) S → acc.length + ds.length ≤ bigN →
    ∃ vs S', compGo tg test elt σ ds acc S = .ok (.lst (acc.reverse ++ vs)) S' ∧ vs.length = ds.length ∧ (∀ v ∈ vs, Pr v) ∧ Inv m S'
  | [], acc, S, hx, hi, hl => ⟨[], S, by simp [compGo], rfl, by simp, hi⟩
  | d :: ds, acc, S, hx, hi, hl => by
    obtain ⟨σ2, v, S1, h1, h2, h3, h4⟩ := hx d List.mem_cons_self (m + ds.length) S (by simpa [Nat.add_assoc] using hi)
    obtain ⟨vs, S2, e1, e2, e3, e4⟩ := comp_ex ht Pr Inv m ds (v :: acc) S1 (fun e he => hx e (List.mem_cons_of_mem _ he)) h4 (by simp at hl ⊢; omega)
    refine ⟨v :: vs, S2, ?_, by simp [e2], ?_, e4⟩
    · rw [compGo, h1]
      simp only [ht, h2]
      rw [if_pos (Nat.ble_eq_true_of_le (by simp at hl; omega)), e1]
      simp
    · intro w hw
      rcases List.mem_cons.mp hw with rfl | hw
      · exact h3
      · exact e3 w hw
/-- a loop that gathers; P tells of what is left -/
theorem for_fold {α β : Type} {tg : Tg} {body : Env → Store → OutS} (enc : α → D) (σf : β → Option α → Env) (step : β → α → β) (P : Nat → β → Prop) (S : Store) : ∀ (xs : List α) (j : Nat) (b : β) (l : Option α), P (j + xs.length) b →
    (∀ x ∈ xs, ∀ i b l, P (i + 1) b → ∃ σ2, asg tg (enc x) (σf b l) = some σ2 ∧ body σ2 S = .nx (σf (step b x) (some x)) S ∧ P i (step b x)) →
    ∃ l', forGo tg body (xs.map enc) (σf b l) S = .nx (σf (xs.foldl step b) l') S ∧ P j (xs.foldl step b)
  | [], j, b, l, hp, _ => ⟨l, by simp [forGo], hp⟩
  | x :: xs, j, b, l, hp, h => by
    obtain ⟨σ2, h1, h2, h3⟩ := h x List.mem_cons_self (j + xs.length) b l hp
    obtain ⟨l', e1, e2⟩ := for_fold enc σf step P S xs j (step b x) (some x) h3 fun y hy => h y (List.mem_cons_of_mem _ hy)
    refine ⟨l', ?_, e2⟩
    rw [List.map_cons, forGo, h1]
    simp only [h2]
    exact e1
/-! ### rows and forms -/
abbrev Row := List Rat
abbrev Form := Row × Rat
def rowD (r : Row) : D := .tup (r.map fr)
def formD (f : Form) : D := .tup [rowD f.1, fr f.2]
def formsD (fs : List Form) : D := .tup (fs.map formD)
theorem eqvs_map {α : Type} [DecidableEq α] {f : α → D} (h : ∀ x y, eqv (f x) (f y) = decide (x = y)) : ∀ xs ys : List α, eqvs (xs.map f) (ys.map f) = decide (xs = ys)
  | [], [] => by simp [eqvs]
  | [], _ :: _ => by simp [eqvs]
  | _ :: _, [] => by simp [eqvs]
  | x :: xs, y :: ys => by
    rw [List.map_cons, List.map_cons, eqvs, h, eqvs_map h]
    by_cases h1 : x = y <;> by_cases h2 : xs = ys <;> simp [h1, h2]
theorem plains_map {α : Type} {f : α → D} {n : Nat} (h : ∀ x, plain n (f x) = true) : ∀ xs : List α, plains n (xs.map f) = true
  | [] => by simp [plains]
  | x :: xs => by rw [List.map_cons, plains, h, plains_map h]; rfl
theorem eqv_row (r s : Row) : eqv (rowD r) (rowD s) = decide (r = s) := by
  rw [rowD, rowD, eqv, eqvs_map eqv_fr]
theorem plain_row (n : Nat) (r : Row) : plain (n + 2) (rowD r) = true := by
  rw [rowD, plain]; exact plains_map (fun x => plain_fr n x) r
theorem eqv_form (f g : Form) : eqv (formD f) (formD g) = decide (f = g) := by
  rw [formD, formD, eqv, eqvs, eqvs, eqvs, eqv_row, eqv_fr, Bool.and_true]
  obtain ⟨a, b⟩ := f
  obtain ⟨c, d⟩ := g
  by_cases h1 : a = c <;> by_cases h2 : b = d <;> simp [h1, h2]
theorem plain_form (n : Nat) (f : Form) : plain (n + 3) (formD f) = true := by
  rw [formD, plain, plains, plains, plains, plain_row, plain_fr]; rfl
theorem eqv_forms (f g : List Form) : eqv (formsD f) (formsD g) = decide (f = g) := by
  rw [formsD, formsD, eqv, eqvs_map eqv_form]
theorem plain_forms (n : Nat) (f : List Form) : plain (n + 4) (formsD f) = true := by
  rw [formsD, plain]; exact plains_map (fun x => plain_form n x) f
section
variable {S : Store} {r s : Row} {f g : Form} {fs gs : List Form} {p q : Rat}
@[simp] theorem c_eqR : cmp2 .eq (rowD r) (rowD s) S = .ok (decide (r = s)) S := by
  rw [c_eq rfl rfl (plain_row 58 r) (plain_row 58 s), eqv_row]
@[simp] theorem c_neR : cmp2 .ne (rowD r) (rowD s) S = .ok (!decide (r = s)) S := by
  rw [c_ne rfl rfl (plain_row 58 r) (plain_row 58 s), eqv_row]
@[simp] theorem c_eqFo : cmp2 .eq (formD f) (formD g) S = .ok (decide (f = g)) S := by
  rw [c_eq rfl rfl (plain_form 57 f) (plain_form 57 g), eqv_form]
@[simp] theorem c_neFo : cmp2 .ne (formD f) (formD g) S = .ok (!decide (f = g)) S := by
  rw [c_ne rfl rfl (plain_form 57 f) (plain_form 57 g), eqv_form]
@[simp] theorem c_eqFs : cmp2 .eq (formsD fs) (formsD gs) S = .ok (decide (fs = gs)) S := by
  rw [c_eq rfl rfl (plain_forms 56 fs) (plain_forms 56 gs), eqv_forms]
@[simp] theorem c_neFs : cmp2 .ne (formsD fs) (formsD gs) S = .ok (!decide (fs = gs)) S := by
  rw [c_ne rfl rfl (plain_forms 56 fs) (plain_forms 56 gs), eqv_forms]
@[simp] theorem i_fo0 : item (formD f) (.int 0) S = .ok (rowD f.1) S := Eq.trans rfl rfl
@[simp] theorem i_fo1 : item (formD f) (.int 1) S = .ok (fr f.2) S := Eq.trans rfl rfl
@[simp] theorem l_row : lenD (rowD r) S = .ok (.int r.length) S := by simp [rowD]
@[simp] theorem l_form : lenD (formD f) S = .ok (.int 2) S := Eq.trans rfl rfl
@[simp] theorem l_forms : lenD (formsD fs) S = .ok (.int fs.length) S := by simp [formsD]
@[simp] theorem w_row : walk (rowD r) S = some (r.map fr) := Eq.trans rfl rfl
@[simp] theorem w_forms : walk (formsD fs) S = some (fs.map formD) := Eq.trans rfl rfl
@[simp] theorem is_row (ts : List Ty) : isD ts (rowD r) S = .ok (.bl (ts.any fun t => tyIs (.tup []) t)) S := by
  have : tyIs (rowD r) = tyIs (.tup []) := by funext t; cases t <;> rfl
  show Out.ok (D.bl (ts.any fun t => tyIs (rowD r) t)) S = _
  rw [this]
@[simp] theorem is_form (ts : List Ty) : isD ts (formD f) S = .ok (.bl (ts.any fun t => tyIs (.tup []) t)) S := by
  have : tyIs (formD f) = tyIs (.tup []) := by funext t; cases t <;> rfl
  show Out.ok (D.bl (ts.any fun t => tyIs (formD f) t)) S = _
  rw [this]
@[simp] theorem is_forms (ts : List Ty) : isD ts (formsD fs) S = .ok (.bl (ts.any fun t => tyIs (.tup []) t)) S := by
  have : tyIs (formsD fs) = tyIs (.tup []) := by funext t; cases t <;> rfl
  show Out.ok (D.bl (ts.any fun t => tyIs (formsD fs) t)) S = _
  rw [this]
@[simp] theorem z_rows : zipOf (rowD r) (rowD s) = some ((r.zip s).map fun p => .tup [fr p.1, fr p.2]) := by
  have : ∀ r s : Row, zipD (r.map fr) (s.map fr) = (r.zip s).map fun p => .tup [fr p.1, fr p.2] := by
    intro r
    induction r with
    | nil => intro s; rfl
    | cons a r ih => intro s; cases s with
      | nil => rfl
      | cons b s => simp [zipD, ih s]
  show some (zipD (r.map fr) (s.map fr)) = _
  rw [this]
@[simp] theorem z_rowforms : zipOf (rowD r) (formsD fs) = some ((r.zip fs).map fun p => .tup [fr p.1, formD p.2]) := by
  have : ∀ (r : Row) (fs : List Form), zipD (r.map fr) (fs.map formD) = (r.zip fs).map fun p => .tup [fr p.1, formD p.2] := by
    intro r
    induction r with
    | nil => intro s; rfl
    | cons a r ih => intro s; cases s with
      | nil => rfl
      | cons b s => simp [zipD, ih s]
  show some (zipD (r.map fr) (fs.map formD)) = _
  rw [this]
theorem bools_true {α : Type} : ∀ (xs : List α), boolsOf (xs.map fun _ => D.bl true) = some (xs.map fun _ => true)
  | [] => rfl
  | _ :: xs => by simp [boolsOf, bools_true xs]
theorem all_true {α : Type} (xs : List α) : allD (.lst (xs.map fun _ => D.bl true)) S = .ok (.bl true) S := by
  rw [all_lst _ _ (bools_true xs)]
  congr 2
  induction xs with
  | nil => rfl
  | cons x xs ih => simp
end
/-- entries not too great -/
def SmR (n : Nat) (r : Row) : Prop := r.length ≤ 100 ∧ ∀ q ∈ r, Sm n q
theorem SmR.mono {m n : Nat} {r : Row} (h : SmR m r) (k : m ≤ n) : SmR n r := ⟨h.1, fun q hq => (h.2 q hq).mono k⟩
def SmF (n : Nat) (f : Form) : Prop := SmR n f.1 ∧ Sm n f.2
theorem SmF.mono {m n : Nat} {f : Form} (h : SmF m f) (k : m ≤ n) : SmF n f := ⟨h.1.mono k, h.2.mono k⟩
end DL
end
section
set_option Elab.async false
set_option autoImplicit false
set_option linter.all false
set_option maxRecDepth 100000
set_option maxHeartbeats 2000000
/-! P3: rows and forms, plainly. -/
namespace DL
def addR (r s : Row) : Row := (r.zip s).map fun p => p.1 + p.2
def subR (r s : Row) : Row := (r.zip s).map fun p => p.1 - p.2
def mulR (c : Rat) (r : Row) : Row := r.map (c * ·)
def prodR (r s : Row) : Rat := (r.zip s).foldl (fun a p => a + p.1 * p.2) 0
def worth (f : Form) (r : Row) : Rat := prodR f.1 r + f.2
def addF (f g : Form) : Form := (addR f.1 g.1, f.2 + g.2)
def mulF (c : Rat) (f : Form) : Form := (mulR c f.1, c * f.2)
def noughtR (n : Nat) : Row := List.replicate n 0
def constF (n : Nat) (c : Rat) : Form := (noughtR n, c)
def behindF (f : Form) (n : Nat) (gs : List Form) : Form := (f.1.zip gs).foldl (fun a p => addF a (mulF p.1 p.2)) (constF n f.2)
theorem addR_length (r s : Row) (h : r.length = s.length) : (addR r s).length = r.length := by simp [addR, h]
theorem mulR_length (c : Rat) (r : Row) : (mulR c r).length = r.length := by simp [mulR]
theorem prod_acc : ∀ (l : List (Rat × Rat)) (a b : Rat), l.foldl (fun a p => a + p.1 * p.2) (a + b) = a + l.foldl (fun a p => a + p.1 * p.2) b
  | [], a, b => rfl
  | p :: l, a, b => by
    rw [List.foldl_cons, List.foldl_cons, Rat.add_assoc, prod_acc l a (b + p.1 * p.2)]
theorem prod_cons (x y : Rat) (r s : Row) : prodR (x :: r) (y :: s) = x * y + prodR r s := by
  unfold prodR
  rw [List.zip_cons_cons, List.foldl_cons]
  have := prod_acc (r.zip s) (x * y) 0
  simp only at this ⊢
  rw [Rat.zero_add, ← this, Rat.add_zero]
theorem prod_nil (s : Row) : prodR [] s = 0 := rfl
theorem prod_nil2 (s : Row) : prodR s [] = 0 := by cases s <;> rfl
theorem prod_add : ∀ (r s t : Row), r.length = s.length → prodR (addR r s) t = prodR r t + prodR s t
  | [], [], t, _ => by simp [addR, prod_nil]; grind
  | x :: r, y :: s, [], _ => by simp [prod_nil2]; grind
  | x :: r, y :: s, z :: t, h => by
    have ih := prod_add r s t (by simpa using h)
    have e : addR (x :: r) (y :: s) = (x + y) :: addR r s := by simp [addR]
    rw [e, prod_cons, prod_cons, prod_cons, ih]
    grind
theorem prod_mul (c : Rat) : ∀ (r t : Row), prodR (mulR c r) t = c * prodR r t
  | [], t => by simp [mulR, prod_nil]
  | x :: r, [] => by simp [prod_nil2]
  | x :: r, z :: t => by
    have ih := prod_mul c r t
    have e : mulR c (x :: r) = (c * x) :: mulR c r := by simp [mulR]
    rw [e, prod_cons, prod_cons, ih]
    grind
theorem prod_nought (n : Nat) : ∀ t : Row, prodR (noughtR n) t = 0 := by
  induction n with
  | zero => intro t; exact prod_nil t
  | succ n ih => intro t; cases t with
    | nil => exact prod_nil2 _
    | cons z t =>
      have e : noughtR (n + 1) = 0 :: noughtR n := rfl
      rw [e, prod_cons, ih]; grind
theorem worth_add (f g : Form) (t : Row) (h : f.1.length = g.1.length) : worth (addF f g) t = worth f t + worth g t := by
  simp only [worth, addF, prod_add _ _ _ h]; grind
theorem worth_mul (c : Rat) (f : Form) (t : Row) : worth (mulF c f) t = c * worth f t := by
  simp only [worth, mulF, prod_mul]; grind
theorem worth_const (n : Nat) (c : Rat) (t : Row) : worth (constF n c) t = c := by
  simp only [worth, constF, prod_nought]; grind
/-- all forms of the width -/
def Wide (n : Nat) (gs : List Form) : Prop := ∀ g ∈ gs, g.1.length = n
theorem addF_wide {n : Nat} {f g : Form} (hf : f.1.length = n) (hg : g.1.length = n) : (addF f g).1.length = n := by
  rw [addF, addR_length _ _ (by rw [hf, hg]), hf]
theorem mulF_wide {n : Nat} {c : Rat} {f : Form} (hf : f.1.length = n) : (mulF c f).1.length = n := by rw [mulF, mulR_length, hf]
theorem fold_wide {n : Nat} : ∀ (l : List (Rat × Form)) (a : Form), a.1.length = n → (∀ p ∈ l, p.2.1.length = n) → (l.foldl (fun a p => addF a (mulF p.1 p.2)) a).1.length = n
  | [], a, h, _ => h
  | p :: l, a, h, hl => fold_wide l _ (addF_wide h (mulF_wide (hl p List.mem_cons_self))) fun q hq => hl q (List.mem_cons_of_mem _ hq)
theorem zip_wide {n : Nat} {r : Row} {gs : List Form} (h : Wide n gs) : ∀ p ∈ r.zip gs, p.2.1.length = n := fun p hp => h p.2 (List.of_mem_zip hp).2
theorem behind_wide {n : Nat} {f : Form} {gs : List Form} (h : Wide n gs) : (behindF f n gs).1.length = n :=
  fold_wide _ _ (by simp [constF, noughtR]) (zip_wide h)
theorem worth_fold {n : Nat} (t : Row) : ∀ (l : List (Rat × Form)) (a : Form), a.1.length = n → (∀ p ∈ l, p.2.1.length = n) → worth (l.foldl (fun a p => addF a (mulF p.1 p.2)) a) t = (l.map fun p => (p.1, worth p.2 t)).foldl (fun a p => a + p.1 * p.2) (worth a t)
  | [], a, h, _ => rfl
  | p :: l, a, h, hl => by
    have hp := hl p List.mem_cons_self
    rw [List.foldl_cons, worth_fold t l _ (addF_wide h (mulF_wide hp)) fun q hq => hl q (List.mem_cons_of_mem _ hq), List.map_cons, List.foldl_cons, worth_add _ _ _ (by rw [h, mulF_wide hp]), worth_mul]
theorem zip_map_right {α β γ : Type} (f : β → γ) : ∀ (r : List α) (s : List β), r.zip (s.map f) = (r.zip s).map fun p => (p.1, f p.2)
  | [], _ => rfl
  | _ :: _, [] => rfl
  | a :: r, b :: s => by simp [zip_map_right f r s]
/-- a form behind forms, at a row -/
theorem worth_behind {n : Nat} {f : Form} {gs : List Form} (h : Wide n gs) (t : Row) : worth (behindF f n gs) t = worth f (gs.map fun g => worth g t) := by
  rw [behindF, worth_fold t _ _ (by simp [constF, noughtR]) (zip_wide h), worth_const, worth, prodR, zip_map_right, Rat.add_comm]
  have := prod_acc ((f.1.zip gs).map fun p => (p.1, worth p.2 t)) f.2 0
  rw [Rat.add_zero] at this
  exact this
/-! chains -/
theorem addR_comm : ∀ r s : Row, addR r s = addR s r
  | [], [] => rfl
  | [], _ :: _ => rfl
  | _ :: _, [] => rfl
  | x :: r, y :: s => by
    have := addR_comm r s
    simp only [addR, List.zip_cons_cons, List.map_cons] at this ⊢
    rw [this, Rat.add_comm]
theorem addR_assoc : ∀ r s t : Row, addR (addR r s) t = addR r (addR s t)
  | [], _, _ => by simp [addR]
  | _ :: _, [], _ => by simp [addR]
  | _ :: _, _ :: _, [] => by simp [addR]
  | x :: r, y :: s, z :: t => by
    have := addR_assoc r s t
    simp only [addR, List.zip_cons_cons, List.map_cons] at this ⊢
    rw [this, Rat.add_assoc]
theorem mulR_add (c : Rat) : ∀ r s : Row, mulR c (addR r s) = addR (mulR c r) (mulR c s)
  | [], _ => by simp [addR, mulR]
  | _ :: _, [] => by simp [addR, mulR]
  | x :: r, y :: s => by
    have := mulR_add c r s
    simp only [addR, mulR, List.zip_cons_cons, List.map_cons] at this ⊢
    rw [this]
    congr 1
    grind
theorem addR_mul (c d : Rat) : ∀ r : Row, mulR (c + d) r = addR (mulR c r) (mulR d r)
  | [] => by simp [addR, mulR]
  | x :: r => by
    have := addR_mul c d r
    simp only [addR, mulR, List.zip_cons_cons, List.map_cons] at this ⊢
    rw [this]
    congr 1
    grind
theorem mulR_mul (c d : Rat) (r : Row) : mulR c (mulR d r) = mulR (c * d) r := by
  simp only [mulR, List.map_map]
  congr 1
  funext x
  show c * (d * x) = c * d * x
  grind
theorem mulR_zero (r : Row) : mulR 0 r = noughtR r.length := by
  induction r with
  | nil => rfl
  | cons x r ih =>
    have e : mulR 0 (x :: r) = (0 * x) :: mulR 0 r := rfl
    rw [e, ih]
    have : (0 : Rat) * x = 0 := by grind
    rw [this]; rfl
theorem addR_nought : ∀ r : Row, addR r (noughtR r.length) = r
  | [] => rfl
  | x :: r => by
    have := addR_nought r
    have e : noughtR (x :: r).length = 0 :: noughtR r.length := rfl
    rw [e]
    simp only [addR, List.zip_cons_cons, List.map_cons] at this ⊢
    rw [this, Rat.add_zero]
theorem addF_assoc (f g h : Form) : addF (addF f g) h = addF f (addF g h) := by
  simp only [addF, addR_assoc, Rat.add_assoc]
theorem addF_comm (f g : Form) : addF f g = addF g f := by
  simp only [addF, addR_comm f.1, Rat.add_comm f.2]
theorem mulF_add (c : Rat) (f g : Form) : mulF c (addF f g) = addF (mulF c f) (mulF c g) := by
  simp only [mulF, addF, mulR_add, Prod.mk.injEq, true_and]; grind
theorem addF_mul (c d : Rat) (f : Form) : mulF (c + d) f = addF (mulF c f) (mulF d f) := by
  simp only [mulF, addF, addR_mul, Prod.mk.injEq, true_and]; grind
theorem mulF_mul (c d : Rat) (f : Form) : mulF c (mulF d f) = mulF (c * d) f := by
  simp only [mulF, mulR_mul, Prod.mk.injEq, true_and]; grind
theorem nought_left {n : Nat} {f : Form} (h : f.1.length = n) (c : Rat) : addF (constF n c) f = (f.1, c + f.2) := by
  subst h
  simp only [addF, constF, addR_comm (noughtR _), addR_nought]
/-- the linear part of a form behind forms -/
def linF (r : Row) (n : Nat) (gs : List Form) : Form := (r.zip gs).foldl (fun a p => addF a (mulF p.1 p.2)) (constF n 0)
theorem fold_acc : ∀ (l : List (Rat × Form)) (a b : Form), l.foldl (fun a p => addF a (mulF p.1 p.2)) (addF a b) = addF a (l.foldl (fun a p => addF a (mulF p.1 p.2)) b)
  | [], a, b => rfl
  | p :: l, a, b => by rw [List.foldl_cons, List.foldl_cons, addF_assoc, fold_acc l]
theorem const_split {n : Nat} (c : Rat) : addF (constF n c) (constF n 0) = constF n c := by
  rw [nought_left (by simp [constF, noughtR])]
  simp [constF, Rat.add_zero]
theorem behind_lin (f : Form) (n : Nat) (gs : List Form) : behindF f n gs = addF (constF n f.2) (linF f.1 n gs) := by
  rw [behindF, linF, ← fold_acc, const_split]
theorem lin_cons (x : Rat) (r : Row) (n : Nat) (g : Form) (gs : List Form) (hg : g.1.length = n) : linF (x :: r) n (g :: gs) = addF (mulF x g) (linF r n gs) := by
  rw [linF, List.zip_cons_cons, List.foldl_cons, addF_comm, fold_acc]; rfl
theorem lin_nil (n : Nat) (gs : List Form) : linF [] n gs = constF n 0 := rfl
theorem lin_nil2 (r : Row) (n : Nat) : linF r n [] = constF n 0 := by cases r <;> rfl
theorem lin_wide {n : Nat} {r : Row} {gs : List Form} (h : Wide n gs) : (linF r n gs).1.length = n := fold_wide _ _ (by simp [constF, noughtR]) (zip_wide h)
theorem const_add (n : Nat) (c d : Rat) : addF (constF n c) (constF n d) = constF n (c + d) := by
  rw [nought_left (by simp [constF, noughtR])]; rfl
theorem lin_add : ∀ (r s : Row) (n : Nat) (gs : List Form), Wide n gs → r.length = s.length → linF (addR r s) n gs = addF (linF r n gs) (linF s n gs)
  | [], [], n, gs, _, _ => by rw [show addR [] [] = [] from rfl, lin_nil, const_add, Rat.add_zero]
  | x :: r, y :: s, n, [], _, _ => by rw [lin_nil2, lin_nil2, lin_nil2, const_add, Rat.add_zero]
  | x :: r, y :: s, n, g :: gs, hw, h => by
    have hg := hw g List.mem_cons_self
    have ih := lin_add r s n gs (fun k hk => hw k (List.mem_cons_of_mem _ hk)) (by simpa using h)
    have e : addR (x :: r) (y :: s) = (x + y) :: addR r s := by simp [addR]
    rw [e, lin_cons _ _ _ _ _ hg, lin_cons _ _ _ _ _ hg, lin_cons _ _ _ _ _ hg, ih, addF_mul]
    rw [addF_assoc, addF_assoc, ← addF_assoc (mulF y g), addF_comm (mulF y g), addF_assoc (linF r n gs)]
theorem mul_const (n : Nat) (c d : Rat) : mulF c (constF n d) = constF n (c * d) := by
  simp only [mulF, constF, mulR, noughtR, List.map_replicate, Prod.mk.injEq, and_true]
  congr 1
  grind
theorem lin_mul (c : Rat) : ∀ (r : Row) (n : Nat) (gs : List Form), Wide n gs → linF (mulR c r) n gs = mulF c (linF r n gs)
  | [], n, gs, _ => by rw [show mulR c [] = [] from rfl, lin_nil, mul_const]; simp
  | x :: r, n, [], _ => by rw [lin_nil2, lin_nil2, mul_const]; simp
  | x :: r, n, g :: gs, hw => by
    have hg := hw g List.mem_cons_self
    have ih := lin_mul c r n gs (fun k hk => hw k (List.mem_cons_of_mem _ hk))
    have e : mulR c (x :: r) = (c * x) :: mulR c r := rfl
    rw [e, lin_cons _ _ _ _ _ hg, lin_cons _ _ _ _ _ hg, ih, mulF_add, mulF_mul]
theorem behind_add {n : Nat} {gs : List Form} (hw : Wide n gs) (f g : Form) (h : f.1.length = g.1.length) : behindF (addF f g) n gs = addF (behindF f n gs) (behindF g n gs) := by
  rw [behind_lin, behind_lin, behind_lin]
  show addF (constF n (f.2 + g.2)) (linF (addR f.1 g.1) n gs) = _
  rw [lin_add _ _ _ _ hw h, ← const_add, addF_assoc, addF_assoc, ← addF_assoc (constF n g.2), addF_comm (constF n g.2), addF_assoc (linF f.1 n gs)]
theorem behind_mul {n : Nat} {gs : List Form} (hw : Wide n gs) (c : Rat) (f : Form) : behindF (mulF c f) n gs = mulF c (behindF f n gs) := by
  rw [behind_lin, behind_lin]
  show addF (constF n (c * f.2)) (linF (mulR c f.1) n gs) = _
  rw [lin_mul _ _ _ _ hw, mulF_add, mul_const]
theorem lin_nought (m n : Nat) : ∀ gs : List Form, Wide n gs → linF (noughtR m) n gs = constF n 0 := by
  induction m with
  | zero => intro gs _; rfl
  | succ m ih => intro gs hw; cases gs with
    | nil => exact lin_nil2 _ _
    | cons g gs =>
      have hg := hw g List.mem_cons_self
      have e : noughtR (m + 1) = 0 :: noughtR m := rfl
      rw [e, lin_cons _ _ _ _ _ hg, ih gs fun k hk => hw k (List.mem_cons_of_mem _ hk)]
      have : mulF 0 g = constF n 0 := by
        subst hg
        simp only [mulF, constF, mulR_zero, Prod.mk.injEq, true_and]; grind
      rw [this, const_add, Rat.add_zero]
theorem behind_const {n m : Nat} {gs : List Form} (hw : Wide n gs) (c : Rat) : behindF (constF m c) n gs = constF n c := by
  rw [behind_lin]
  show addF (constF n c) (linF (noughtR m) n gs) = _
  rw [lin_nought m n gs hw, const_split]
theorem chain_fold {m n : Nat} {hs : List Form} (hw : Wide n hs) : ∀ (l : List (Rat × Form)) (a : Form), a.1.length = m → (∀ p ∈ l, p.2.1.length = m) →
    behindF (l.foldl (fun a p => addF a (mulF p.1 p.2)) a) n hs = (l.map fun p => (p.1, behindF p.2 n hs)).foldl (fun a p => addF a (mulF p.1 p.2)) (behindF a n hs)
  | [], a, _, _ => rfl
  | p :: l, a, h, hl => by
    have hp := hl p List.mem_cons_self
    rw [List.foldl_cons, chain_fold hw l _ (addF_wide h (mulF_wide hp)) fun q hq => hl q (List.mem_cons_of_mem _ hq), List.map_cons, List.foldl_cons, behind_add hw _ _ (by rw [h, mulF_wide hp]), behind_mul hw]
/-- chains are put together either way -/
theorem behind_chain {m n : Nat} {f : Form} {gs hs : List Form} (hg : Wide m gs) (hh : Wide n hs) : behindF f n (gs.map fun g => behindF g n hs) = behindF (behindF f m gs) n hs := by
  rw [behindF, zip_map_right]
  show _ = behindF ((f.1.zip gs).foldl (fun a p => addF a (mulF p.1 p.2)) (constF m f.2)) n hs
  rw [chain_fold hh _ _ (show (constF m f.2).1.length = m by simp [constF, noughtR]) (zip_wide hg), behind_const hh]
end DL
namespace DL
def fillR (r : Row) (w : Nat) : Row := r ++ noughtR (w - r.length)
def mcAdd (f g : Form) : Form := (addR (fillR f.1 (max f.1.length g.1.length)) (fillR g.1 (max f.1.length g.1.length)), f.2 + g.2)
def mcBehind (f : Form) (gs : List Form) : Form := (f.1.zip gs).foldl (fun a p => mcAdd a (mulF p.1 p.2)) ([], f.2)
theorem fill_self (r : Row) : fillR r r.length = r := by simp [fillR, noughtR]
theorem fill_nil (n : Nat) : fillR [] n = noughtR n := by simp [fillR]
theorem mc_fold {n : Nat} : ∀ (l : List (Rat × Form)) (a b : Form), (∀ p ∈ l, p.2.1.length = n) → fillR a.1 n = b.1 → a.2 = b.2 → (a.1 = [] ∨ a.1.length = n) →
    fillR (l.foldl (fun a p => mcAdd a (mulF p.1 p.2)) a).1 n = (l.foldl (fun a p => addF a (mulF p.1 p.2)) b).1 ∧ (l.foldl (fun a p => mcAdd a (mulF p.1 p.2)) a).2 = (l.foldl (fun a p => addF a (mulF p.1 p.2)) b).2
  | [], a, b, _, h1, h2, _ => ⟨h1, h2⟩
  | p :: l, a, b, hl, h1, h2, h3 => by
    have hp : (mulF p.1 p.2).1.length = n := mulF_wide (hl p List.mem_cons_self)
    have hm : max a.1.length (mulF p.1 p.2).1.length = n := by
      rw [hp]
      rcases h3 with h3 | h3
      · rw [h3]; simp
      · rw [h3]; simp
    have hb : b.1.length = n := by
      rw [← h1]
      rcases h3 with h3 | h3
      · rw [h3]; simp [fillR, noughtR]
      · simp [fillR, noughtR, h3]
    have e1 : (mcAdd a (mulF p.1 p.2)).1 = (addF b (mulF p.1 p.2)).1 := by
      have ef : fillR (mulF p.1 p.2).1 n = (mulF p.1 p.2).1 := by
        have := fill_self (mulF p.1 p.2).1
        rw [hp] at this; exact this
      show addR (fillR a.1 _) (fillR (mulF p.1 p.2).1 _) = addR b.1 (mulF p.1 p.2).1
      rw [hm, h1, ef]
    have hw := addF_wide hb hp
    rw [List.foldl_cons, List.foldl_cons]
    refine mc_fold l _ _ (fun q hq => hl q (List.mem_cons_of_mem _ hq)) ?_ ?_ (.inr (by rw [e1, hw]))
    · rw [e1]
      have := fill_self (addF b (mulF p.1 p.2)).1
      rw [hw] at this; exact this
    · show a.2 + _ = b.2 + _
      rw [h2]
theorem mc_behind {n : Nat} {f : Form} {gs : List Form} (h : Wide n gs) : fillR (mcBehind f gs).1 n = (behindF f n gs).1 ∧ (mcBehind f gs).2 = (behindF f n gs).2 :=
  mc_fold _ _ _ (zip_wide h) (fill_nil n) rfl (.inl rfl)
/-! ### sizes -/
theorem Sm.zero : Sm 1 0 := ⟨by decide, by decide⟩
theorem Sm.one : Sm 1 1 := ⟨by decide, by decide⟩
theorem SmR.add {m n : Nat} {r s : Row} (hr : SmR m r) (hs : SmR n s) : SmR (m + n + 1) (addR r s) := by
  refine ⟨?_, fun q hq => ?_⟩
  · have := hr.1
    simp only [addR, List.length_map, List.length_zip]; omega
  · simp only [addR, List.mem_map] at hq
    obtain ⟨p, hp, rfl⟩ := hq
    exact (hr.2 _ (List.of_mem_zip hp).1).add (hs.2 _ (List.of_mem_zip hp).2)
theorem SmR.mul {m n : Nat} {c : Rat} {r : Row} (hc : Sm m c) (hr : SmR n r) : SmR (m + n) (mulR c r) := by
  refine ⟨by rw [mulR_length]; exact hr.1, fun q hq => ?_⟩
  simp only [mulR, List.mem_map] at hq
  obtain ⟨p, hp, rfl⟩ := hq
  exact hc.mul (hr.2 _ hp)
theorem SmR.nought {n : Nat} (h : n ≤ 100) : SmR 1 (noughtR n) := by
  refine ⟨by simp [noughtR, h], fun q hq => ?_⟩
  have : q = 0 := List.eq_of_mem_replicate hq
  subst this
  exact Sm.zero
theorem SmF.add {m n : Nat} {f g : Form} (hf : SmF m f) (hg : SmF n g) : SmF (m + n + 1) (addF f g) := ⟨hf.1.add hg.1, hf.2.add hg.2⟩
theorem SmF.mul {m n : Nat} {c : Rat} {g : Form} (hc : Sm m c) (hg : SmF n g) : SmF (m + n) (mulF c g) := ⟨SmR.mul hc hg.1, hc.mul hg.2⟩
end DL
end
section
set_option Elab.async false
set_option autoImplicit false
set_option linter.all false
set_option maxRecDepth 100000
set_option maxHeartbeats 2000000
namespace LW
open DL
abbrev R (k : Nat) : Cl := DL.run fns gcons k
theorem abs_eq (a : Int) : (if a < 0 then -a else a) = (a.natAbs : Int) := by split <;> omega
theorem s_is_integer (k : Nat) (i : Int) (S : Store) : R (k + 1) 8 [.int i] S = .ok (.bl true) S := by
  rw [R, run_at at_is_integer rfl]
  simp [F_is_integer, startD, bi, on1, isD, tyIs, truth, endOf]
theorem s_common_by (k : Nat) (a b : Int) (S : Store) (h : b.natAbs < 2 ^ 16001) : R (k + 1) 4 [.int a, .int b] S = .ok (.int (Nat.gcd a.natAbs b.natAbs : Nat)) S := by
  rw [R, run_at at_common_by rfl]
  have e := gcd_loop (cl := R k) (gc := gcons) (S := S) 16001 turns a.natAbs b.natAbs h (by decide)
  simp [F_common_by, startD, bi, on1, absD, fits, bigN, abs_eq]
  rw [e]
  simp [endOf]
theorem Sm.nz {q : Rat} : (q.den : Int) ≠ 0 := by have := q.den_nz; omega
theorem s_is_fraction (k : Nat) (q : Rat) (S : Store) (h : Sm 16000 q) : R (k + 2) 9 [fr q] S = .ok (.bl true) S := by
  have hd : ((q.den : Int)).natAbs < 2 ^ 16001 := by
    rw [Int.natAbs_natCast]
    exact Nat.lt_trans h.2 (Nat.pow_lt_pow_right (by decide) (by decide))
  have hg : (Nat.gcd q.num.natAbs q.den) = 1 := q.reduced
  have hp : (1 : Int) ≤ (q.den : Int) := by have := q.den_pos; omega
  rw [R, run_at at_is_fraction rfl]
  simp [F_is_fraction, startD, fr, bi, on1, isD, tyIs, truth, endOf, lenD, lenOf, cmp2, cpEq, deref, plain, eqv, walk, oItems, compGo, asg, wipeD, s_is_integer, allD, lOf, boolsOf, item, getAt, ixAt, cpInt, s_common_by _ _ _ _ hd, hg, hp, bigN]
theorem s_require_fraction (k : Nat) (q : Rat) (S : Store) (h : Sm 16000 q) : R (k + 3) 22 [fr q] S = .ok (fr q) S := by
  rw [R, run_at at_require_fraction rfl]
  simp [F_require_fraction, startD, s_is_fraction _ _ _ h, truth]
/-- exact division by a common divisor -/
theorem div_ok {a : Int} {g : Nat} (S : Store) (h0 : g ≠ 0) (h : g < 2 ^ 8999) : opDiv (.int a) (.int g) S = .ok (.int (a.fdiv g)) S := by
  show (if (decide ((g : Int) ≠ 0) && Nat.ble (g : Int).natAbs.log2 8999) = true then (Out.ok (D.int (a.fdiv g)) S : Out D) else .bad) = _
  rw [if_pos]
  rw [Bool.and_eq_true]
  refine ⟨decide_eq_true (by omega), ?_⟩
  apply Nat.ble_eq_true_of_le
  rw [Int.natAbs_natCast]
  have := log_of h (by decide)
  omega
theorem mul_ok {a b : Int} {m n : Nat} (S : Store) (ha : a.natAbs < 2 ^ m) (hb : b.natAbs < 2 ^ n) (h : m + n ≤ 100000) : opMul (.int a) (.int b) S = .ok (.int (a * b)) S := by
  show (if Nat.ble (a.natAbs.log2 + b.natAbs.log2) 999999 = true then (Out.ok (D.int (a * b)) S : Out D) else .bad) = _
  rw [if_pos]
  apply Nat.ble_eq_true_of_le
  have h1 : a.natAbs.log2 ≤ m := by
    cases m with
    | zero => have : a.natAbs = 0 := by simpa using ha
              rw [this]; simp
    | succ m => exact Nat.le_of_lt (log_of ha (by omega))
  have h2 : b.natAbs.log2 ≤ n := by
    cases n with
    | zero => have : b.natAbs = 0 := by simpa using hb
              rw [this]; simp
    | succ n => exact Nat.le_of_lt (log_of hb (by omega))
  omega
/-- what mkRat is, as the program makes it -/
theorem s_made (k : Nat) (a : Int) (b : Nat) (S : Store) (h0 : b ≠ 0) (h : b < 2 ^ 8999) : R (k + 2) 5 [.int a, .int b] S = .ok (fr (mkRat a b)) S := by
  have hg : Nat.gcd a.natAbs b ≠ 0 := Nat.gcd_ne_zero_right h0
  have hg2 : Nat.gcd a.natAbs b < 2 ^ 8999 := Nat.lt_of_le_of_lt (Nat.gcd_le_right _ (Nat.pos_of_ne_zero h0)) h
  have hb : ((b : Int)).natAbs < 2 ^ 16001 := by
    rw [Int.natAbs_natCast]
    exact Nat.lt_trans h (Nat.pow_lt_pow_right (by decide) (by decide))
  have e := s_common_by k a b S hb
  rw [Int.natAbs_natCast] at e
  have hn : ¬ (b : Int) < 0 := by omega
  obtain ⟨m1, m2⟩ := mk_num a b h0
  rw [R, run_at at_made rfl]
  simp [F_made, startD, cmp2, cpInt, hn, op2, truth, fits, bigN, e, div_ok S hg hg2]
  simp [fr, m1, m2]
theorem s_mc_gcd (k : Nat) (a b : Int) (S : Store) (h : b.natAbs < 2 ^ 16001) : R (k + 1) 1 [.int a, .int b] S = .ok (.int (Nat.gcd a.natAbs b.natAbs : Nat)) S := by
  rw [R, run_at at_law_mc_gcd rfl]
  have e := gcd_loop (cl := R k) (gc := gcons) (S := S) 16001 turns a.natAbs b.natAbs h (by decide)
  simp [F_law_mc_gcd, startD, bi, on1, absD, fits, bigN, abs_eq]
  rw [e]
  simp [endOf]
theorem s_mc_fr (k : Nat) (a : Int) (b : Nat) (S : Store) (h0 : b ≠ 0) (h : b < 2 ^ 8999) : R (k + 2) 2 [.int a, .int b] S = .ok (fr (mkRat a b)) S := by
  have hg : Nat.gcd a.natAbs b ≠ 0 := Nat.gcd_ne_zero_right h0
  have hg2 : Nat.gcd a.natAbs b < 2 ^ 8999 := Nat.lt_of_le_of_lt (Nat.gcd_le_right _ (Nat.pos_of_ne_zero h0)) h
  have hb : ((b : Int)).natAbs < 2 ^ 16001 := by
    rw [Int.natAbs_natCast]
    exact Nat.lt_trans h (Nat.pow_lt_pow_right (by decide) (by decide))
  have e := s_mc_gcd k a b S hb
  rw [Int.natAbs_natCast] at e
  have hp : 0 < b := by omega
  have hm : opMul (.int (Nat.gcd a.natAbs b : Nat)) (.int 1) S = .ok (.int (Nat.gcd a.natAbs b : Nat)) S := by
    rw [mul_ok (m := 8999) (n := 1) S (by rw [Int.natAbs_natCast]; exact hg2) (by decide) (by decide), Int.mul_one]
  obtain ⟨m1, m2⟩ := mk_num a b h0
  rw [R, run_at at_law_mc_fr rfl]
  simp [F_law_mc_fr, startD, cmp2, cpInt, hp, op2, truth, fits, bigN, e, hm, div_ok S hg hg2]
  simp [fr, m1, m2]
theorem s_added (k : Nat) (p q : Rat) (S : Store) {m n : Nat} (hp : Sm m p) (hq : Sm n q) (h : m + n ≤ 8990) : R (k + 3) 6 [fr p, fr q] S = .ok (fr (p + q)) S := by
  have hz := add_small hp hq
  have hd : p.den * q.den < 2 ^ 8999 := Nat.lt_of_lt_of_le hz.2 (Nat.pow_le_pow_right (by decide) (by omega))
  have h0 : p.den * q.den ≠ 0 := Nat.mul_ne_zero p.den_nz q.den_nz
  have e := s_made k (p.num * q.den + q.num * p.den) (p.den * q.den) S h0 hd
  rw [← Rat.add_def'] at e
  have m1 : opMul (.int p.num) (.int q.den) S = .ok (.int (p.num * q.den)) S := mul_ok S hp.1 (by rw [Int.natAbs_natCast]; exact hq.2) (by omega)
  have m2 : opMul (.int q.num) (.int p.den) S = .ok (.int (q.num * p.den)) S := mul_ok S hq.1 (by rw [Int.natAbs_natCast]; exact hp.2) (by omega)
  have m3 : opMul (.int p.den) (.int q.den) S = .ok (.int ((p.den * q.den : Nat) : Int)) S := by
    rw [mul_ok S (by rw [Int.natAbs_natCast]; exact hp.2) (by rw [Int.natAbs_natCast]; exact hq.2) (show m + n ≤ 100000 by omega)]; simp
  rw [R, run_at at_added rfl]
  by_cases c1 : p.den = q.den
  · by_cases c2 : q.den = 1
    · have d1 : p.den = 1 := by omega
      have ea : fr (p + q) = .tup [.int (p.num + q.num), .int 1] := by
        rw [Rat.add_def', d1, c2, fr]
        have := mk_num (p.num * (1 : Nat) + q.num * (1 : Nat)) 1 (by decide)
        rw [show (1 * 1 : Nat) = 1 from rfl, this.1, this.2]
        simp
      simp [F_added, startD, d1, c2, fits_le, ea]
    · have c2' : ¬ (q.den : Int) = 1 := by omega
      rw [c1] at m2 m3 e
      simp [F_added, startD, c1, c2', fits_le]
      simp [op2, m1, m2, m3, opAdd]
      simp at e
      simp [e]
  · have c1' : ¬ (p.den : Int) = q.den := by omega
    simp [F_added, startD, c1', fits_le]
    simp [op2, m1, m2, m3, opAdd]
    simp at e
    simp [e]
theorem s_multiplied (k : Nat) (p q : Rat) (S : Store) {m n : Nat} (hp : Sm m p) (hq : Sm n q) (h : m + n ≤ 8990) : R (k + 3) 24 [fr p, fr q] S = .ok (fr (p * q)) S := by
  have hz := mul_small hp hq
  have hd : p.den * q.den < 2 ^ 8999 := Nat.lt_of_lt_of_le hz.2 (Nat.pow_le_pow_right (by decide) (by omega))
  have h0 : p.den * q.den ≠ 0 := Nat.mul_ne_zero p.den_nz q.den_nz
  have e := s_made k (p.num * q.num) (p.den * q.den) S h0 hd
  rw [← Rat.mul_def'] at e
  have m1 : opMul (.int p.num) (.int q.num) S = .ok (.int (p.num * q.num)) S := mul_ok S hp.1 hq.1 (by omega)
  have m3 : opMul (.int p.den) (.int q.den) S = .ok (.int ((p.den * q.den : Nat) : Int)) S := by
    rw [mul_ok S (by rw [Int.natAbs_natCast]; exact hp.2) (by rw [Int.natAbs_natCast]; exact hq.2) (show m + n ≤ 100000 by omega)]; simp
  rw [R, run_at at_multiplied rfl]
  by_cases c1 : p.den = q.den
  · by_cases c2 : q.den = 1
    · have d1 : p.den = 1 := by omega
      have ea : fr (p * q) = .tup [.int (p.num * q.num), .int 1] := by
        rw [Rat.mul_def', d1, c2, fr]
        have := mk_num (p.num * q.num) 1 (by decide)
        rw [show (1 * 1 : Nat) = 1 from rfl, this.1, this.2]
        simp
      simp [F_multiplied, startD, d1, c2, fits_le, ea, op2, m1]
    · have c2' : ¬ (q.den : Int) = 1 := by omega
      rw [c1] at m3 e
      simp [F_multiplied, startD, c1, c2', fits_le]
      simp [op2, m1, m3]
      simp at e
      simp [e]
  · have c1' : ¬ (p.den : Int) = q.den := by omega
    simp [F_multiplied, startD, c1', fits_le]
    simp [op2, m1, m3]
    simp at e
    simp [e]
theorem s_mc_plus (k : Nat) (p q : Rat) (S : Store) {m n : Nat} (hp : Sm m p) (hq : Sm n q) (h : m + n ≤ 8990) : R (k + 3) 3 [fr p, fr q] S = .ok (fr (p + q)) S := by
  have hz := add_small hp hq
  have hd : p.den * q.den < 2 ^ 8999 := Nat.lt_of_lt_of_le hz.2 (Nat.pow_le_pow_right (by decide) (by omega))
  have h0 : p.den * q.den ≠ 0 := Nat.mul_ne_zero p.den_nz q.den_nz
  have e := s_mc_fr k (p.num * q.den + q.num * p.den) (p.den * q.den) S h0 hd
  rw [← Rat.add_def'] at e
  have m1 : opMul (.int p.num) (.int q.den) S = .ok (.int (p.num * q.den)) S := mul_ok S hp.1 (by rw [Int.natAbs_natCast]; exact hq.2) (by omega)
  have m2 : opMul (.int q.num) (.int p.den) S = .ok (.int (q.num * p.den)) S := mul_ok S hq.1 (by rw [Int.natAbs_natCast]; exact hp.2) (by omega)
  have m3 : opMul (.int p.den) (.int q.den) S = .ok (.int ((p.den * q.den : Nat) : Int)) S := by
    rw [mul_ok S (by rw [Int.natAbs_natCast]; exact hp.2) (by rw [Int.natAbs_natCast]; exact hq.2) (show m + n ≤ 100000 by omega)]; simp
  rw [R, run_at at_law_mc_plus rfl]
  simp [F_law_mc_plus, startD, fits_le]
  simp [op2, m1, m2, m3, opAdd]
  simp at e
  simp [e]
theorem s_mc_times (k : Nat) (p q : Rat) (S : Store) {m n : Nat} (hp : Sm m p) (hq : Sm n q) (h : m + n ≤ 8990) : R (k + 3) 26 [fr p, fr q] S = .ok (fr (p * q)) S := by
  have hz := mul_small hp hq
  have hd : p.den * q.den < 2 ^ 8999 := Nat.lt_of_lt_of_le hz.2 (Nat.pow_le_pow_right (by decide) (by omega))
  have h0 : p.den * q.den ≠ 0 := Nat.mul_ne_zero p.den_nz q.den_nz
  have e := s_mc_fr k (p.num * q.num) (p.den * q.den) S h0 hd
  rw [← Rat.mul_def'] at e
  have m1 : opMul (.int p.num) (.int q.num) S = .ok (.int (p.num * q.num)) S := mul_ok S hp.1 hq.1 (by omega)
  have m3 : opMul (.int p.den) (.int q.den) S = .ok (.int ((p.den * q.den : Nat) : Int)) S := by
    rw [mul_ok S (by rw [Int.natAbs_natCast]; exact hp.2) (by rw [Int.natAbs_natCast]; exact hq.2) (show m + n ≤ 100000 by omega)]; simp
  rw [R, run_at at_law_mc_times rfl]
  simp [F_law_mc_times, startD, fits_le]
  simp [op2, m1, m3]
  simp at e
  simp [e]
theorem s_opposite (k : Nat) (q : Rat) (S : Store) : R (k + 1) 19 [fr q] S = .ok (fr (-q)) S := by
  rw [R, run_at at_opposite rfl]
  simp [F_opposite, startD, fits_le]
  simp [fr]
theorem s_less (k : Nat) (p q : Rat) (S : Store) {m n : Nat} (hp : Sm m p) (hq : Sm n q) (h : m + n ≤ 8990) : R (k + 4) 28 [fr p, fr q] S = .ok (fr (p - q)) S := by
  rw [R, run_at at_less rfl]
  simp [F_less, startD, s_opposite, s_added _ _ _ _ hp hq.neg h, Rat.sub_eq_add_neg]
/-! ### texts -/
theorem s_great_step (k : Nat) (S : Store) : R (k + 1) 40 [] S = .ok (.int (10 ^ 4000)) S := by
  rw [R, run_at at_great_step rfl]
  have e1 : intD (.str (49 :: repN [48] 4000)) S = .ok (.int (10 ^ 4000)) S := by
    have : intOf (49 :: repN [48] 4000) = some (10 ^ 4000) := by decide +kernel
    simp [intD, this]
  have e2 : op2 .mul (.str [48]) (.int 4000) S = .ok (.str (repN [48] 4000)) S := rfl
  have e3 : op2 .add (.str [49]) (.str (repN [48] 4000)) S = .ok (.str (49 :: repN [48] 4000)) S := by
    have : fits ([49].length + (repN [48] 4000).length) = true := by decide +kernel
    show (if fits ([49].length + (repN [48] 4000).length) = true then (Out.ok (D.str ([49] ++ repN [48] 4000)) S : Out D) else .bad) = _
    rw [if_pos this]; rfl
  simp [F_great_step, startD, gcons, e2, e3, e1]
/-- the store holds lists of integers alone -/
def OkS (S : Store) : Prop := ∀ xs ∈ S, ∀ d ∈ xs, ∃ i : Int, d = .int i
theorem refs_ints : ∀ (n : Nat) (xs : List D), (∀ d ∈ xs, ∃ i : Int, d = .int i) → refsBelows n xs = true
  | n, [], _ => by rw [refsBelows]
  | n, d :: xs, h => by
    obtain ⟨i, rfl⟩ := h d List.mem_cons_self
    rw [refsBelows, refs_ints n xs fun e he => h e (List.mem_cons_of_mem _ he)]
    simp [refsBelow]
theorem OkS.all {S : Store} (h : OkS S) (n : Nat) : S.all (refsBelows n) = true := by
  rw [List.all_eq_true]
  exact fun xs hx => refs_ints n xs (h xs hx)
theorem trim_new {S : Store} (h : OkS S) (d : D) (hd : refsBelow S.length d = true) (xs : List D) : trim S.length d (S ++ [xs]) = S := by
  unfold trim
  rw [if_neg (by simp), if_pos]
  · simp
  · rw [hd, Bool.true_and, List.take_left' rfl]
    exact h.all _
theorem join_nil (x : List Nat) (S : Store) (h : x.length ≤ 10000) : mth .join (.str []) [.lst [.str x]] S = .ok (.str x) S := by
  have : Nat.ble (x.length + 1) 16000000 = true := Nat.ble_eq_true_of_le (by omega)
  simp [mth, seqOf, lOf, strsOf, joinL, sumLen, this]
theorem s_digits_text (k : Nat) (i : Int) (S : Store) (ok : OkS S) (h : i.natAbs < 2 ^ 1900) (h0 : 0 ≤ i) (hl : (intText i).length ≤ 10000) : R (k + 2) 41 [.int i] S = .ok (.str (intText i)) S := by
  have hs : ¬ (10 ^ 4000 : Int) ≤ i := by
    have h1 : (2 : Nat) ^ 1900 ≤ 10 ^ 4000 := Nat.le_trans (Nat.pow_le_pow_right (by decide) (show 1900 ≤ 4000 by decide)) (Nat.pow_le_pow_left (by decide) _)
    have h2 : ((10 ^ 4000 : Nat) : Int) = (10 : Int) ^ 4000 := by simp
    rw [← h2]
    generalize (10 ^ 4000 : Nat) = b at *
    generalize (2 ^ 1900 : Nat) = c at *
    omega
  have hb : Nat.ble i.natAbs.log2 1919 = true := Nat.ble_eq_true_of_le (by have := log_of h (by decide); omega)
  have hw : ∀ body : Env → Store → OutS, ∀ σ S, whGo (fun σ S => (.ok false S)) body turns σ S = .nx σ S := fun body σ S => rfl
  rw [R, run_at at_digits_text rfl]
  simp [F_digits_text, startD, s_great_step, fits_le]
  have ew : ∀ body, whGo (evT (DL.run fns gcons (k + 1)) gcons (.cmp .ge (.slot 3) (.slot 1))) body turns [some (.int i), some (.int (10 ^ 4000)), some (.ref S.length), some (.int i), none] (S ++ [[]]) = .nx [some (.int i), some (.int (10 ^ 4000)), some (.ref S.length), some (.int i), none] (S ++ [[]]) := fun body => by
    show (evT (DL.run fns gcons (k + 1)) gcons (.cmp .ge (.slot 3) (.slot 1)) [some (.int i), some (.int (10 ^ 4000)), some (.ref S.length), some (.int i), none] (S ++ [[]])).stm _ _ = _
    simp [hs]
  rw [ew]
  simp [strD, hb, revd, lOf, seqOf, fits_le, join_nil _ _ hl]
  show Out.ok _ (trim S.length _ (S ++ [[]])) = _
  rw [trim_new ok _ (by simp [refsBelow])]
@[simp] theorem g_nought : gcons[0]? = some (fr 0) := Eq.trans rfl rfl
@[simp] theorem g_one : gcons[4]? = some (fr 1) := Eq.trans rfl rfl
theorem digitsN_len : ∀ (f n : Nat) (acc : List Nat), (digitsN f n acc).length ≤ f + acc.length
  | 0, n, acc => by simp [digitsN]
  | f + 1, n, acc => by
    unfold digitsN
    split
    · simp; omega
    · have := digitsN_len f (n / 10) ((48 + n % 10) :: acc)
      simp at this; omega
theorem intText_len {i : Int} (h : i.natAbs < 2 ^ 1900) : (intText i).length ≤ 2000 := by
  have hb := log_of h (by decide)
  unfold intText
  have := digitsN_len (i.natAbs.log2 + 1) i.natAbs []
  split <;> simp at this ⊢ <;> omega
theorem s_number_text (k : Nat) (i : Int) (S : Store) (ok : OkS S) (h : i.natAbs < 2 ^ 1900) : R (k + 3) 42 [.int i] S = .ok (.str (intText i)) S := by
  rw [R, run_at at_number_text rfl]
  by_cases h0 : i < 0
  · have h' : (-i).natAbs < 2 ^ 1900 := by rw [Int.natAbs_neg]; exact h
    have e := s_digits_text k (-i) S ok h' (by omega) (Nat.le_trans (intText_len h') (by decide))
    have e2 : op2 .add (.str [45]) (.str (intText (-i))) S = .ok (.str (intText i)) S := by
      have : fits ([45].length + (intText (-i)).length) = true := fits_le (by have := intText_len h'; simp; omega)
      show (if fits ([45].length + (intText (-i)).length) = true then (Out.ok (D.str ([45] ++ intText (-i))) S : Out D) else .bad) = _
      rw [if_pos this]
      have h1 : ¬ (-i) < 0 := by omega
      unfold intText
      rw [if_neg h1, if_pos h0, Int.natAbs_neg]; rfl
    simp [F_number_text, startD, h0, e, e2]
  · have e := s_digits_text k i S ok h (by omega) (Nat.le_trans (intText_len h) (by decide))
    simp [F_number_text, startD, h0, e]
/-- the text of a fraction -/
def txtF (q : Rat) : List Nat := if q.den = 1 then intText q.num else intText q.num ++ 47 :: intText q.den
theorem add_str {x y : List Nat} {S : Store} (h : x.length + y.length ≤ 16777216) : op2 .add (.str x) (.str y) S = .ok (.str (x ++ y)) S := by
  show (if fits (x.length + y.length) = true then (Out.ok (D.str (x ++ y)) S : Out D) else .bad) = _
  rw [if_pos (fits_le h)]
theorem sm_txt {q : Rat} (h : Sm 1900 q) : (intText q.num).length ≤ 2000 ∧ (intText q.den).length ≤ 2000 := ⟨intText_len h.1, intText_len (by rw [Int.natAbs_natCast]; exact h.2)⟩
theorem txtF_len {q : Rat} (h : Sm 1900 q) : (txtF q).length ≤ 4001 := by
  have := sm_txt h
  unfold txtF
  split <;> simp <;> omega
theorem s_text_by (k : Nat) (q : Rat) (S : Store) (ok : OkS S) (h : Sm 1900 q) : R (k + 4) 43 [fr q] S = .ok (.str (txtF q)) S := by
  have h1 := s_number_text k q.num S ok h.1
  have h2 := s_number_text k q.den S ok (by rw [Int.natAbs_natCast]; exact h.2)
  have hl := sm_txt h
  rw [R, run_at at_text_by rfl]
  by_cases c : q.den = 1
  · simp [F_text_by, startD, c, h1, txtF]
  · have c' : ¬ (q.den : Int) = 1 := by omega
    have a1 : op2 .add (.str (intText q.num)) (.str [47]) S = .ok (.str (intText q.num ++ [47])) S := add_str (by simp; omega)
    have a2 : op2 .add (.str (intText q.num ++ [47])) (.str (intText q.den)) S = .ok (.str (intText q.num ++ [47] ++ intText q.den)) S := add_str (by simp; omega)
    simp [F_text_by, startD, c', h1, h2, txtF, a1]
    simp at a2
    simp [a2, c]
theorem strs_map {α : Type} (f : α → List Nat) : ∀ xs : List α, strsOf (xs.map fun x => D.str (f x)) = some (xs.map f)
  | [] => rfl
  | x :: xs => by simp [strsOf, strs_map f xs]
theorem sumLen_le {α : Type} (f : α → List Nat) (b : Nat) : ∀ xs : List α, (∀ x ∈ xs, (f x).length ≤ b) → sumLen (xs.map f) ≤ xs.length * (b + 1)
  | [], _ => by simp [sumLen]
  | x :: xs, h => by
    have := sumLen_le f b xs fun y hy => h y (List.mem_cons_of_mem _ hy)
    have h1 := h x List.mem_cons_self
    simp [sumLen, Nat.add_mul]; omega
theorem join_ok2 {α : Type} (f : α → List Nat) (c : Nat) (xs : List α) (S : Store) (h : ∀ x ∈ xs, (f x).length ≤ 5000) (hl : xs.length ≤ 100) : mth .join (.str [c]) [.lst (xs.map fun x => D.str (f x))] S = .ok (.str (joinL [c] (xs.map f))) S := by
  have h1 := sumLen_le f 5000 xs h
  have : Nat.ble (sumLen (xs.map f)) 16000000 = true := Nat.ble_eq_true_of_le (by
    have : xs.length * 5001 ≤ 100 * 5001 := Nat.mul_le_mul_right _ hl
    omega)
  simp [mth, seqOf, lOf, strs_map, this]
/-- the text of a row -/
def txtR (r : Row) : List Nat := if r = [] then [110, 111, 110, 101] else joinL [32] (r.map txtF)
theorem rowD_nil : D.tup [] = rowD [] := rfl
theorem s_is_count (k : Nat) (i a b : Int) (S : Store) (h : a ≤ i ∧ i ≤ b) : R (k + 2) 50 [.int i, .int a, .int b] S = .ok (.bl true) S := by
  rw [R, run_at at_is_count rfl]
  simp [F_is_count, startD, s_is_integer, h.1, h.2]
theorem s_are_fractions (k : Nat) (r : Row) (S : Store) (h : SmR 8000 r) : R (k + 3) 10 [rowD r] S = .ok (.bl true) S := by
  have e := fun σ => comp_of (tg := .nm 1) (σ := σ) (test := evC (DL.run fns gcons (k + 2)) gcons none) (elt := evE (DL.run fns gcons (k + 2)) gcons (.call 9 [.slot 1])) fr (fun _ => .bl true) (fun q => σ.set 1 (some (fr q))) (fun _ _ => x_c0) S r []
  rw [R, run_at at_are_fractions rfl]
  simp [F_are_fractions, startD, tyIs]
  rw [e]
  · simp [all_true]
  · intro q hq
    refine ⟨rfl, ?_⟩
    simp [wipeD, s_is_fraction _ _ _ ((h.2 q hq).mono (by decide : 8000 ≤ 16000))]
  · have := h.1
    simp [bigN]; omega
@[simp] theorem tup_map {α : Type} (f : α → D) (xs : List α) (S : Store) : tupleD (.lst (xs.map f)) S = .ok (.tup (xs.map f)) S := Eq.trans rfl rfl
theorem fr0 : D.tup [.int 0, .int 1] = fr 0 := rfl
theorem fr1 : D.tup [.int 1, .int 1] = fr 1 := rfl
/-- sums of lists of fractions -/
def sumR (r : Row) : Rat := r.foldl (fun a p => a + p) 0
theorem sum_small {n : Nat} : ∀ (r : Row) (a : Rat) (m : Nat), (∀ q ∈ r, Sm n q) → Sm m a → Sm (m + r.length * (n + 1)) (r.foldl (fun a p => a + p) a)
  | [], a, m, _, h => by simpa using h
  | x :: r, a, m, hr, h => by
    have := sum_small r (a + x) (m + n + 1) (fun q hq => hr q (List.mem_cons_of_mem _ hq)) (h.add (hr x List.mem_cons_self))
    have e : m + (x :: r).length * (n + 1) = m + n + 1 + r.length * (n + 1) := by simp [Nat.add_mul]; omega
    rw [e]; exact this
theorem s_sum_by (k : Nat) (r : Row) (S : Store) {n : Nat} (hr : ∀ q ∈ r, Sm n q) (h : (r.length + 1) * (n + 1) ≤ 8990) : R (k + 4) 7 [.lst (r.map fr)] S = .ok (fr (sumR r)) S ∧ Sm (1 + r.length * (n + 1)) (sumR r) := by
  have e0 : (r.length + 1) * (n + 1) = r.length * (n + 1) + (n + 1) := by rw [Nat.add_mul]; omega
  obtain ⟨l', e1, e2⟩ := for_fold (tg := .nm 2) (body := evB (DL.run fns gcons (k + 3)) gcons [.asg (.nm 1) (.call 6 [.slot 1, .slot 2])]) fr (fun b l => [some (.lst (r.map fr)), some (fr b), l.map fr]) (fun a p => a + p)
    (fun i b => ∃ m, Sm m b ∧ m + i * (n + 1) ≤ 1 + r.length * (n + 1)) S r 0 0 none ⟨1, Sm.zero, by simp only [Nat.zero_add]; omega⟩ (fun x hx i b l ⟨m, hm, hi⟩ => by
      rw [Nat.add_mul] at hi
      refine ⟨[some (.lst (r.map fr)), some (fr b), some (fr x)], rfl, ?_, m + n + 1, hm.add (hr x hx), by omega⟩
      simp [s_added _ _ _ _ hm (hr x hx) (by omega)])
  obtain ⟨m, hm, hi⟩ := e2
  refine ⟨?_, hm.mono (by omega)⟩
  rw [R, run_at at_sum_by rfl]
  simp [F_sum_by, startD]
  simp at e1
  rw [e1]
  simp [sumR]
theorem prod_sum (r s : Row) : sumR ((r.zip s).map fun p => p.1 * p.2) = prodR r s := by rw [sumR, List.foldl_map, prodR]
theorem rep_fr : ∀ n : Nat, rep [fr 0] n = (noughtR n).map fr
  | 0 => rfl
  | n + 1 => by rw [rep, rep_fr n]; rfl
theorem mul_nought (n : Nat) (S : Store) (h : n ≤ 1000) : op2 .mul (.tup [fr 0]) (.int n) S = .ok (rowD (noughtR n)) S := by
  show (if (decide (-1000 ≤ (n : Int)) && decide ((n : Int) ≤ 1000) && Nat.ble [fr 0].length 1000) = true then (Out.ok (D.tup (rep [fr 0] (n : Int).toNat)) S : Out D) else .bad) = _
  have h1 : decide (-1000 ≤ (n : Int)) = true := decide_eq_true (by omega)
  have h2 : decide ((n : Int) ≤ 1000) = true := decide_eq_true (by omega)
  rw [if_pos (by rw [h1, h2]; rfl)]
  simp [rep_fr, rowD]
theorem add_zero_form {n : Nat} {a g : Form} (ha : a.1.length = n) (hg : g.1.length = n) : addF a (mulF 0 g) = a := by
  have e : mulF 0 g = constF n 0 := by
    subst hg
    simp only [mulF, constF, mulR_zero, Prod.mk.injEq, true_and]; grind
  rw [e, addF_comm, nought_left ha]
  simp [Rat.zero_add]
@[simp] theorem isn_non (S : Store) : cmp2 .isn .non .non S = .ok false S := Eq.trans rfl rfl
@[simp] theorem isn_int (i : Int) (S : Store) : cmp2 .isn (.int i) .non S = .ok true S := Eq.trans rfl rfl
def rng (n : Nat) : List Nat := List.range n
theorem range_map : ∀ (n : Nat) (lo : Nat), rangeD lo 1 n = (List.range' lo n).map fun i : Nat => D.int i
  | 0, lo => rfl
  | n + 1, lo => by
    have e : rangeD ((lo : Int) + 1) 1 n = (List.range' (lo + 1) n).map fun i : Nat => D.int i := range_map n (lo + 1)
    show D.int lo :: rangeD ((lo : Int) + 1) 1 n = _
    rw [e]; rfl
@[simp] theorem rng_nat (n : Nat) (S : Store) (h : n < 1000000) : rng2 (.int 0) (.int n) S = .ok ((List.range n).map fun i : Nat => D.int i) S := by
  have h1 : (small62 0 && small62 (n : Int)) = true := by
    rw [Bool.and_eq_true]
    refine ⟨by decide, ?_⟩
    unfold small62
    rw [Bool.and_eq_true]
    exact ⟨decide_eq_true (by omega), decide_eq_true (by omega)⟩
  show (if (small62 0 && small62 (n : Int)) = true then (Out.ok (rangeD 0 1 ((n : Int) - 0).toNat) S : Out (List D)) else .bad) = _
  rw [if_pos h1]
  have := range_map n 0
  rw [List.range_eq_range']
  simp at this
  simp [this]
def unitR (n j : Nat) : Row := (List.range n).map fun i => if i = j then 1 else 0
theorem s_require_count (k : Nat) (i a b : Int) (S : Store) (h : a ≤ i ∧ i ≤ b) : R (k + 3) 51 [.int i, .int a, .int b] S = .ok (.int i) S := by
  rw [R, run_at at_require_count rfl]
  simp [F_require_count, startD, s_is_count _ _ _ _ _ h]
theorem add_rows (r s : Row) (S : Store) (h : r.length + s.length ≤ 1000) : op2 .add (rowD r) (rowD s) S = .ok (rowD (r ++ s)) S := by
  show (if fits ((r.map fr).length + (s.map fr).length) = true then (Out.ok (D.tup (r.map fr ++ s.map fr)) S : Out D) else .bad) = _
  rw [if_pos (fits_le (by simp; omega))]
  simp [rowD]
theorem fill_small {m : Nat} {r : Row} {w : Nat} (h : SmR m r) (hm : 1 ≤ m) (hw : w ≤ 100) (hr : r.length ≤ w) : SmR m (fillR r w) := by
  refine ⟨by simp [fillR, noughtR]; omega, fun q hq => ?_⟩
  simp only [fillR, List.mem_append] at hq
  rcases hq with hq | hq
  · exact h.2 q hq
  · have : q = 0 := List.eq_of_mem_replicate hq
    subst this
    exact Sm.zero.mono hm
theorem max_nat (a b : Nat) (S : Store) : maxD (.int a) (.int b) S = .ok (.int (max a b : Nat)) S := by
  show Out.ok (D.int (if (b : Int) > a then b else a)) S = _
  congr 2
  split <;> omega
theorem mcAdd_small {m n : Nat} {f g : Form} (hf : SmF m f) (hg : SmF n g) (hm : 1 ≤ m) (hn : 1 ≤ n) : SmF (m + n + 1) (mcAdd f g) := by
  have w1 : max f.1.length g.1.length ≤ 100 := Nat.max_le.mpr ⟨hf.1.1, hg.1.1⟩
  exact ⟨(fill_small hf.1 hm w1 (Nat.le_max_left _ _)).add (fill_small hg.1 hn w1 (Nat.le_max_right _ _)), hf.2.add hg.2⟩
theorem sum_one (r s : Row) : addR r (mulR 1 s) = addR r s := by
  rw [addR, mulR, zip_map_right, List.map_map, addR]
  congr 1
  funext p
  show p.1 + 1 * p.2 = p.1 + p.2
  grind
theorem sum_minus (r s : Row) : addR r (mulR (-1) s) = subR r s := by
  rw [addR, mulR, zip_map_right, List.map_map, subR]
  congr 1
  funext p
  show p.1 + -1 * p.2 = p.1 - p.2
  grind
/-! ### dice -/
def Dice (n m : Nat) (S : Store) : Prop := OkS S ∧ ∃ a b c : Int, S[n]? = some [.int a, .int b, .int c] ∧ 0 ≤ c ∧ c + m ≤ 2 ^ 100
theorem Dice.weak {n m m' : Nat} {S : Store} (h : Dice n m S) (k : m' ≤ m) : Dice n m' S := by
  obtain ⟨h1, a, b, c, h2, h3, h4⟩ := h
  exact ⟨h1, a, b, c, h2, h3, by omega⟩
theorem OkS.set {S : Store} (h : OkS S) (n : Nat) (a b c : Int) : OkS (S.set n [.int a, .int b, .int c]) := by
  intro xs hx d hd
  rcases List.mem_or_eq_of_mem_set hx with hx | rfl
  · exact h xs hx d hd
  · simp at hd
    rcases hd with rfl | rfl | rfl <;> exact ⟨_, rfl⟩
theorem trim_set (d : D) (S : Store) (n : Nat) (xs : List D) : trim S.length d (S.set n xs) = S.set n xs := by
  unfold trim
  rw [if_pos (by simp)]
theorem s_roll (k n m t : Nat) (S : Store) (h : Dice n (m + 1) S) (t0 : 0 < t) (t1 : t < 1073741824) : ∃ (v : Nat) (S' : Store), R (k + 1) 13 [.ref n, .int t] S = .ok (.int v) S' ∧ v < t ∧ Dice n m S' ∧ S'.length = S.length := by
  obtain ⟨ok, a, b, c, hS, c0, c1⟩ := h
  have hn : n < S.length := (List.getElem?_eq_some_iff.mp hS).1
  have i0 : item (.ref n) (.int 0) S = .ok (.int a) S := by simp [item, lOf, hS, getAt, ixAt]
  have i1 : ∀ x y z : Int, item (.ref n) (.int 1) (S.set n [.int x, .int y, .int z]) = .ok (.int y) (S.set n [.int x, .int y, .int z]) := by intro x y z; simp [item, lOf, hn, getAt, ixAt]
  have i2 : item (.ref n) (.int 2) S = .ok (.int c) S := by simp [item, lOf, hS, getAt, ixAt]
  have i3 : ∀ x y z : Int, item (.ref n) (.int 2) (S.set n [.int x, .int y, .int z]) = .ok (.int z) (S.set n [.int x, .int y, .int z]) := by intro x y z; simp [item, lOf, hn, getAt, ixAt]
  have ht : ((t : Int)) ≠ 0 := by omega
  by_cases ha : 0 < a
  · have hd : divmodD (.int a) (.int t) S = .ok (.tup [.int (a / t), .int (a % t)]) S := by
      show (if (decide (0 < (t : Int)) && decide ((t : Int) < 1073741824)) = true then (Out.ok (D.tup [.int (a / t), .int (a % t)]) S : Out D) else .bad) = _
      rw [if_pos (by rw [Bool.and_eq_true]; exact ⟨decide_eq_true (by omega), decide_eq_true (by omega)⟩)]
    have hs : setIt (.ref n) (.int 0) (.int (a / t)) S = some (S.set n [.int (a / t), .int b, .int c]) := by simp [setIt, hS, ixAt]
    refine ⟨(a % t).toNat, S.set n [.int (a / t), .int b, .int c], ?_, ?_, ⟨ok.set n _ _ _, a / t, b, c, by simp [hn], c0, by omega⟩, by simp⟩
    · have e : (((a % (t : Int)).toNat : Nat) : Int) = a % t := Int.toNat_of_nonneg (Int.emod_nonneg _ ht)
      rw [R, run_at at_law_roll rfl]
      simp [F_law_roll, startD, i0, ha, hd, hs, intD, e]
      show Out.ok _ (trim S.length _ (S.set n _)) = _
      rw [trim_set]
    · have := Int.emod_lt_of_pos a (show (0 : Int) < t by omega)
      have := Int.emod_nonneg a ht
      omega
  · have hs : setIt (.ref n) (.int 2) (.int (c + 1)) S = some (S.set n [.int a, .int b, .int (c + 1)]) := by simp [setIt, hS, ixAt]
    have cb : (c + 1).natAbs < 2 ^ 101 := by
      have : (2 : Nat) ^ 101 = 2 * 2 ^ 100 := by decide
      have h2 : (2 : Int) ^ 100 = ((2 ^ 100 : Nat) : Int) := by decide
      rw [h2] at c1
      rw [this]
      generalize (2 ^ 100 : Nat) = z at *
      omega
    have m1 : ∀ S, op2 .mul (.int 67867967) (.int (c + 1)) S = .ok (.int (67867967 * (c + 1))) S := fun S => mul_ok (m := 30) (n := 101) S (by decide) cb (by decide)
    have mo : ∀ (x y : Int) S, y ≠ 0 → op2 .mod (.int x) (.int y) S = .ok (.int (x.fmod y)) S := fun x y S hy => by
      show (if decide (y ≠ 0) = true then (Out.ok (D.int (x.fmod y)) S : Out D) else .bad) = _
      rw [if_pos (decide_eq_true hy)]
    have fb : ∀ x y : Int, 0 < y → 0 ≤ x.fmod y ∧ x.fmod y < y := fun x y hy => ⟨Int.fmod_nonneg_of_pos x hy, Int.fmod_lt_of_pos x hy⟩
    generalize hx : (b + 67867967 * (c + 1)).fmod 2305843009213693613 = x
    have bx := fb (b + 67867967 * (c + 1)) 2305843009213693613 (by decide)
    rw [hx] at bx
    have m2 : ∀ S, op2 .mul (.int x) (.int x) S = .ok (.int (x * x)) S := fun S => mul_ok (m := 62) (n := 62) S (by omega) (by omega) (by decide)
    have m3 : ∀ S, op2 .mul (.int 211) (.int (c + 1)) S = .ok (.int (211 * (c + 1))) S := fun S => mul_ok (m := 30) (n := 101) S (by decide) cb (by decide)
    generalize hy : (x * x + 211 * (c + 1)).fmod 2305843009213693487 = y
    have bY := fb (x * x + 211 * (c + 1)) 2305843009213693487 (by decide)
    rw [hy] at bY
    have m4 : ∀ S, op2 .mul (.int y) (.int 49979693) S = .ok (.int (y * 49979693)) S := fun S => mul_ok (m := 62) (n := 30) S (by omega) (by decide) (by decide)
    have d1 : ∀ (z : Int) S, op2 .fdiv (.int z) (.int 70001) S = .ok (.int (z.fdiv 70001)) S := fun z S => rfl
    have vb := fb ((y * 49979693 + x).fdiv 70001) t (by omega)
    refine ⟨(((y * 49979693 + x).fdiv 70001).fmod t).toNat, S.set n [.int a, .int b, .int (c + 1)], ?_, by omega, ⟨ok.set n _ _ _, a, b, c + 1, by simp [hn], by omega, by omega⟩, by simp⟩
    have e : ((((y * 49979693 + x).fdiv 70001).fmod (t : Int)).toNat : Int) = ((y * 49979693 + x).fdiv 70001).fmod t := Int.toNat_of_nonneg vb.1
    rw [e, R, run_at at_law_roll rfl]
    simp [F_law_roll, startD, i0, ha, i2, hs, i1, i3, m1, mo, hx, m2, m3, hy, m4, d1, intD, mo _ _ _ ht]
    show Out.ok _ (trim S.length _ (S.set n _)) = _
    rw [trim_set]
theorem s_pick (k n m : Nat) (xs : List D) (S : Store) (h : Dice n (m + 1) S) (h0 : 0 < xs.length) (h1 : xs.length < 1000) : ∃ (d : D) (S' : Store), R (k + 2) 14 [.ref n, .lst xs] S = .ok d S' ∧ d ∈ xs ∧ Dice n m S' ∧ S'.length = S.length := by
  obtain ⟨v, S', e, hv, hd, hl⟩ := s_roll k n m xs.length S h h0 (by omega)
  refine ⟨xs[v], S', ?_, List.getElem_mem hv, hd, hl⟩
  have hi : item (.lst xs) (.int v) S' = .ok xs[v] S' := by
    simp [item, lOf, getAt, ixAt, hv]
  have ht : trim S.length xs[v] S' = S' := by
    unfold trim
    rw [if_pos (by rw [hl]; exact Nat.beq_refl _)]
  rw [R, run_at at_law_pick rfl]
  simp [F_law_pick, startD, e, hi, endOf, ht]
theorem trim_len {d : D} {S S' : Store} (h : S'.length = S.length) : trim S.length d S' = S' := by
  unfold trim
  rw [if_pos (by rw [h]; exact Nat.beq_refl _)]
theorem end_len {d : D} {S S' : Store} (h : S'.length = S.length) : endOf S.length (.ret d S') = .ok d S' := by
  show Out.ok d (trim S.length d S') = _
  rw [trim_len h]
theorem rows_of : ∀ vs : List D, (∀ v ∈ vs, ∃ q, v = fr q ∧ Sm 3 q) → ∃ r : Row, vs = r.map fr ∧ ∀ q ∈ r, Sm 3 q
  | [], _ => ⟨[], rfl, by simp⟩
  | v :: vs, h => by
    obtain ⟨q, rfl, hq⟩ := h v List.mem_cons_self
    obtain ⟨r, rfl, hr⟩ := rows_of vs fun w hw => h w (List.mem_cons_of_mem _ hw)
    exact ⟨q :: r, rfl, fun p hp => by
      rcases List.mem_cons.mp hp with rfl | hp
      · exact hq
      · exact hr p hp⟩
theorem forms_of (w : Nat) : ∀ vs : List D, (∀ v ∈ vs, ∃ f : Form, v = formD f ∧ SmF 3 f ∧ f.1.length = w) → ∃ gs : List Form, vs = gs.map formD ∧ (∀ g ∈ gs, SmF 3 g) ∧ Wide w gs
  | [], _ => ⟨[], rfl, by simp, fun g hg => by simp at hg⟩
  | v :: vs, h => by
    obtain ⟨f, rfl, hf, hl⟩ := h v List.mem_cons_self
    obtain ⟨gs, rfl, hg, hw⟩ := forms_of w vs fun x hx => h x (List.mem_cons_of_mem _ hx)
    refine ⟨f :: gs, rfl, fun g h => ?_, fun g h => ?_⟩
    · rcases List.mem_cons.mp h with rfl | h
      · exact hf
      · exact hg g h
    · rcases List.mem_cons.mp h with rfl | h
      · exact hl
      · exact hw g h
theorem not_fraction (k : Nat) (i : Int) (S : Store) : R (k + 1) 9 [.int i] S = .ok (.bl false) S := by
  rw [R, run_at at_is_fraction rfl]
  simp [F_is_fraction, startD, tyIs]
theorem bools_snoc (r : Row) : boolsOf ((r.map fun _ => D.bl true) ++ [.bl false]) = some ((r.map fun _ => true) ++ [false]) := by
  induction r with
  | nil => rfl
  | cons x r ih => simp only [List.map_cons, List.cons_append, boolsOf, ih]; rfl
def encO : Option Rat → D
  | some q => fr q
  | none => .int 0
def hO : Option Rat → D
  | some _ => .bl true
  | none => .bl false
theorem encO_map (r : Row) : (r.map some ++ [none]).map encO = r.map fr ++ [.int 0] := by
  rw [List.map_append, List.map_map]; rfl
theorem hO_map (r : Row) : (r.map some ++ [none]).map hO = (r.map fun _ => D.bl true) ++ [.bl false] := by
  rw [List.map_append, List.map_map]; rfl
def low (x : List Nat) : Prop := ∀ c ∈ x, c ≤ 200
theorem low_digits : ∀ (f n : Nat) (acc : List Nat), low acc → low (digitsN f n acc)
  | 0, n, acc, h => by simpa [digitsN] using h
  | f + 1, n, acc, h => by
    have h2 : low ((48 + n % 10) :: acc) := fun c hc => by
      rcases List.mem_cons.mp hc with rfl | hc
      · omega
      · exact h c hc
    unfold digitsN
    split
    · exact h2
    · exact low_digits f (n / 10) _ h2
theorem low_int (i : Int) : low (intText i) := by
  unfold intText
  have := fun n => low_digits (i.natAbs.log2 + 1) n [] (fun c hc => by simp at hc)
  split
  · intro c hc
    rcases List.mem_cons.mp hc with rfl | hc
    · omega
    · exact this _ c hc
  · exact this _
theorem low_app {x y : List Nat} (hx : low x) (hy : low y) : low (x ++ y) := fun c hc => (List.mem_append.mp hc).elim (hx c) (hy c)
theorem low_F (q : Rat) : low (txtF q) := by
  unfold txtF
  split
  · exact low_int _
  · refine low_app (low_int _) fun c hc => ?_
    rcases List.mem_cons.mp hc with rfl | hc
    · omega
    · exact low_int _ c hc
theorem low_join (sep : List Nat) (hs : low sep) : ∀ ts : List (List Nat), (∀ t ∈ ts, low t) → low (joinL sep ts)
  | [], _ => by simp [joinL, low]
  | [t], h => by simpa [joinL] using h t (by simp)
  | t :: u :: ts, h => by
    rw [joinL]
    · exact low_app (low_app (h t (by simp)) hs) (low_join sep hs (u :: ts) fun x hx => h x (List.mem_cons_of_mem _ hx))
    · simp
theorem low_R (r : Row) : low (txtR r) := by
  unfold txtR
  split
  · intro c hc; simp at hc; omega
  · exact low_join _ (fun c hc => by simp at hc; omega) _ fun t ht => by
      simp only [List.mem_map] at ht
      obtain ⟨q, _, rfl⟩ := ht
      exact low_F q
theorem plain_low {x : List Nat} (h : low x) : plain 60 (.str x) = true := by
  rw [plain, List.all_eq_true]
  intro c hc
  exact Nat.ble_eq_true_of_le (by have := h c hc; omega)
theorem c_neS {x y : List Nat} (hx : low x) (hy : low y) (S : Store) : cmp2 .ne (.str x) (.str y) S = .ok (!decide (x = y)) S := by
  rw [c_ne rfl rfl (plain_low hx) (plain_low hy)]
  simp [eqv]
@[simp] theorem isn_tt (S : Store) : cmp2 .isn (.bl true) (.bl true) S = .ok false S := Eq.trans rfl rfl
@[simp] theorem isn_ff (S : Store) : cmp2 .isn (.bl false) (.bl false) S = .ok false S := Eq.trans rfl rfl
@[simp] theorem is_tt (S : Store) : cmp2 .is (.bl true) (.bl true) S = .ok true S := Eq.trans rfl rfl
theorem c_eqE (S : Store) : cmp2 .eq (.lst []) (.lst []) S = .ok true S := by
  rw [c_eq rfl rfl (by simp [plain, plains]) (by simp [plain, plains])]
  simp [eqv, eqvs]
theorem strD_ok {i : Int} (h : i.natAbs < 2 ^ 1900) (S : Store) : strD (.int i) S = .ok (.str (intText i)) S := by
  show (if Nat.ble i.natAbs.log2 1919 = true then (Out.ok (D.str (intText i)) S : Out D) else .bad) = _
  rw [if_pos]
  apply Nat.ble_eq_true_of_le
  have := log_of h (by decide)
  omega
theorem c_neR_self (r : Row) (S : Store) : cmp2 .ne (rowD r) (rowD r) S = .ok false S := by rw [c_neR]; simp
theorem fold_row (r : Row) : D.tup (List.map fr r) = rowD r := rfl
theorem lst_row (r : Row) (S : Store) : listD (rowD r) S = .ok (.lst (r.map fr)) S := rfl
end LW
end
section
set_option Elab.async false
set_option autoImplicit false
set_option linter.all false
set_option maxRecDepth 100000
set_option maxHeartbeats 2000000
namespace LW
open DL
theorem s_require_both (k : Nat) (p q : Rat) (S : Store) (hp : Sm 16000 p) (hq : Sm 16000 q) : R (k + 4) 23 [fr p, fr q] S = .ok .non S := by
  rw [R, run_at at_require_both rfl]
  simp [F_require_both, startD, s_require_fraction _ _ _ hp, s_require_fraction _ _ _ hq]
theorem s_plus (k : Nat) (p q : Rat) (S : Store) {m n : Nat} (hp : Sm m p) (hq : Sm n q) (h : m + n ≤ 8990) : R (k + 5) 27 [fr p, fr q] S = .ok (fr (p + q)) S := by
  rw [R, run_at at_plus rfl]
  simp [F_plus, startD, s_require_both _ _ _ _ (hp.mono (show m ≤ 16000 by omega)) (hq.mono (show n ≤ 16000 by omega)), s_added _ _ _ _ hp hq h]
theorem s_minus (k : Nat) (p q : Rat) (S : Store) {m n : Nat} (hp : Sm m p) (hq : Sm n q) (h : m + n ≤ 8990) : R (k + 5) 29 [fr p, fr q] S = .ok (fr (p - q)) S := by
  rw [R, run_at at_minus rfl]
  simp [F_minus, startD, s_require_both _ _ _ _ (hp.mono (show m ≤ 16000 by omega)) (hq.mono (show n ≤ 16000 by omega)), s_less _ _ _ _ hp hq h]
theorem s_times (k : Nat) (p q : Rat) (S : Store) {m n : Nat} (hp : Sm m p) (hq : Sm n q) (h : m + n ≤ 8990) : R (k + 5) 25 [fr p, fr q] S = .ok (fr (p * q)) S := by
  rw [R, run_at at_times rfl]
  simp [F_times, startD, s_require_both _ _ _ _ (hp.mono (show m ≤ 16000 by omega)) (hq.mono (show n ≤ 16000 by omega)), s_multiplied _ _ _ _ hp hq h]
theorem muls {p q : Rat} {m n : Nat} (S : Store) (hp : Sm m p) (hq : Sm n q) (h : m + n ≤ 100000) :
    op2 .mul (.int p.num) (.int q.den) S = .ok (.int (p.num * q.den)) S ∧ op2 .mul (.int q.num) (.int p.den) S = .ok (.int (q.num * p.den)) S ∧ op2 .mul (.int p.den) (.int q.den) S = .ok (.int ((p.den * q.den : Nat) : Int)) S ∧
    op2 .mul (.int p.den) (.int q.num) S = .ok (.int (p.den * q.num)) S ∧ op2 .mul (.int p.num) (.int q.num) S = .ok (.int (p.num * q.num)) S := by
  have d1 : ((p.den : Int)).natAbs < 2 ^ m := by rw [Int.natAbs_natCast]; exact hp.2
  have d2 : ((q.den : Int)).natAbs < 2 ^ n := by rw [Int.natAbs_natCast]; exact hq.2
  refine ⟨mul_ok S hp.1 d2 h, mul_ok S hq.1 d1 (by omega), ?_, mul_ok S d1 hq.1 h, mul_ok S hp.1 hq.1 h⟩
  have := mul_ok S d1 d2 h
  show opMul (.int p.den) (.int q.den) S = _
  rw [this]
  simp
theorem s_is_less_by (k : Nat) (p q : Rat) (S : Store) {m n : Nat} (hp : Sm m p) (hq : Sm n q) (h : m + n ≤ 8990) : R (k + 1) 16 [fr p, fr q] S = .ok (.bl (decide (p < q))) S := by
  obtain ⟨m1, m2, _⟩ := muls S hp hq (by omega)
  rw [R, run_at at_is_less_by rfl]
  simp [F_is_less_by, startD, m1, m2, Rat.lt_iff]
theorem s_is_less (k : Nat) (p q : Rat) (S : Store) {m n : Nat} (hp : Sm m p) (hq : Sm n q) (h : m + n ≤ 8990) : R (k + 5) 31 [fr p, fr q] S = .ok (.bl (decide (p < q))) S := by
  rw [R, run_at at_is_less rfl]
  simp [F_is_less, startD, s_require_both _ _ _ _ (hp.mono (show m ≤ 16000 by omega)) (hq.mono (show n ≤ 16000 by omega)), s_is_less_by _ _ _ _ hp hq h]
@[simp] theorem int_bl (b : Bool) (S : Store) : intD (.bl b) S = .ok (.int (if b then 1 else 0)) S := Eq.trans rfl rfl
theorem s_sign_by (k : Nat) (q : Rat) (S : Store) : R (k + 1) 32 [fr q] S = .ok (.int (if 0 < q.num then 1 else if q.num < 0 then -1 else 0)) S := by
  rw [R, run_at at_sign_by rfl]
  rcases Int.lt_trichotomy q.num 0 with h | h | h
  · have h2 : ¬ 0 < q.num := by omega
    simp [F_sign_by, startD, h, h2]
  · simp [F_sign_by, startD, h]
  · have h2 : ¬ q.num < 0 := by omega
    simp [F_sign_by, startD, h, h2]
theorem s_sign_of (k : Nat) (q : Rat) (S : Store) (h : Sm 16000 q) : R (k + 4) 33 [fr q] S = .ok (.int (if 0 < q.num then 1 else if q.num < 0 then -1 else 0)) S := by
  rw [R, run_at at_sign_of rfl]
  simp [F_sign_of, startD, s_require_fraction _ _ _ h, s_sign_by]
/-- a divisor below nought -/
theorem s_made_neg (k : Nat) (a : Int) (b : Nat) (S : Store) (h0 : b ≠ 0) (h : b < 2 ^ 8999) : R (k + 2) 5 [.int a, .int (-(b : Int))] S = .ok (fr (mkRat (-a) b)) S := by
  have hg : Nat.gcd a.natAbs b ≠ 0 := Nat.gcd_ne_zero_right h0
  have hg2 : Nat.gcd a.natAbs b < 2 ^ 8999 := Nat.lt_of_le_of_lt (Nat.gcd_le_right _ (Nat.pos_of_ne_zero h0)) h
  have hb : ((b : Int)).natAbs < 2 ^ 16001 := by
    rw [Int.natAbs_natCast]
    exact Nat.lt_trans h (Nat.pow_lt_pow_right (by decide) (by decide))
  have e := s_common_by k (-a) b S hb
  rw [Int.natAbs_natCast, Int.natAbs_neg] at e
  have hn : 0 < b := by omega
  obtain ⟨m1, m2⟩ := mk_num (-a) b h0
  rw [Int.natAbs_neg] at m1 m2
  rw [R, run_at at_made rfl]
  simp [F_made, startD, cmp2, cpInt, hn, op2, truth, fits, bigN, e, div_ok S hg hg2]
  simp [fr, m1, m2]
theorem s_mc_fr_neg (k : Nat) (a : Int) (b : Nat) (S : Store) (h0 : b ≠ 0) (h : b < 2 ^ 8999) : R (k + 2) 2 [.int a, .int (-(b : Int))] S = .ok (fr (mkRat (-a) b)) S := by
  have hg : Nat.gcd a.natAbs b ≠ 0 := Nat.gcd_ne_zero_right h0
  have hg2 : Nat.gcd a.natAbs b < 2 ^ 8999 := Nat.lt_of_le_of_lt (Nat.gcd_le_right _ (Nat.pos_of_ne_zero h0)) h
  have hb : (-(b : Int)).natAbs < 2 ^ 16001 := by
    rw [Int.natAbs_neg, Int.natAbs_natCast]
    exact Nat.lt_trans h (Nat.pow_lt_pow_right (by decide) (by decide))
  have e := s_mc_gcd k a (-(b : Int)) S hb
  rw [Int.natAbs_neg, Int.natAbs_natCast] at e
  have hp : ¬ (b : Int) < 0 := by omega
  have hm : opMul (.int (Nat.gcd a.natAbs b : Nat)) (.int (-1)) S = .ok (.int (-((Nat.gcd a.natAbs b : Nat) : Int))) S := by
    rw [mul_ok (m := 8999) (n := 1) S (by rw [Int.natAbs_natCast]; exact hg2) (by decide) (by decide)]
    congr 2
    omega
  obtain ⟨m1, m2⟩ := mk_num (-a) b h0
  rw [Int.natAbs_neg] at m1 m2
  generalize hG : Nat.gcd a.natAbs b = g at *
  have dv : ∀ c : Int, opDiv (.int c) (.int (-(g : Int))) S = .ok (.int ((-c).fdiv g)) S := fun c => by
    have : (-c).fdiv (g : Int) = c.fdiv (-(g : Int)) := by
      have := Int.neg_fdiv_neg c (-(g : Int))
      rw [Int.neg_neg] at this
      exact this
    rw [this]
    show (if (decide (-(g : Int) ≠ 0) && Nat.ble (-(g : Int)).natAbs.log2 8999) = true then (Out.ok (D.int (c.fdiv (-(g : Int)))) S : Out D) else .bad) = _
    rw [if_pos]
    rw [Bool.and_eq_true]
    refine ⟨decide_eq_true (by omega), ?_⟩
    apply Nat.ble_eq_true_of_le
    rw [Int.natAbs_neg, Int.natAbs_natCast]
    have := log_of hg2 (by decide)
    omega
  rw [R, run_at at_law_mc_fr rfl]
  simp [F_law_mc_fr, startD, cmp2, cpInt, hp, op2, truth, fits, bigN, e, hm, dv]
  simp [fr, m1, m2]
/-- the quotient -/
def quo (p q : Rat) : Rat := if 0 < q.num then mkRat (p.num * q.den) (p.den * q.num.natAbs) else mkRat (-(p.num * q.den)) (p.den * q.num.natAbs)
theorem quo_mul {p q : Rat} (h : q.num ≠ 0) : quo p q * q = p := by
  have h0 : p.den * q.num.natAbs ≠ 0 := Nat.mul_ne_zero p.den_nz (by omega)
  have e : ∀ n : Int, n * q.num = p.num * q.den * q.num.natAbs → mkRat n (p.den * q.num.natAbs) * q = p := fun n hn => by
    have h1 : mkRat n (p.den * q.num.natAbs) * q = mkRat n (p.den * q.num.natAbs) * mkRat q.num q.den := by rw [Rat.mkRat_self]
    have h2 : p = mkRat p.num p.den := (Rat.mkRat_self p).symm
    rw [h1, Rat.mkRat_mul_mkRat]
    refine Eq.trans ?_ h2.symm
    rw [Rat.mkRat_eq_iff (Nat.mul_ne_zero h0 q.den_nz) p.den_nz, hn]
    push_cast
    grind
  unfold quo
  split
  · rename_i hp
    refine e _ ?_
    rw [Int.natAbs_of_nonneg (by omega)]
  · rename_i hp
    refine e _ ?_
    have : ((q.num.natAbs : Nat) : Int) = -q.num := by omega
    rw [this, Int.neg_mul, Int.mul_neg]
end LW
end
section
set_option Elab.async false
set_option autoImplicit false
set_option linter.all false
set_option maxRecDepth 100000
set_option maxHeartbeats 2000000
set_option exponentiation.threshold 200
namespace LW
open DL
theorem quo_small {p q : Rat} {m n : Nat} (hp : Sm m p) (hq : Sm n q) (h : q.num ≠ 0) : Sm (m + n) (quo p q) := by
  have h1 : (p.num * q.den).natAbs < 2 ^ (m + n) := by
    rw [Int.natAbs_mul, Int.natAbs_natCast, Nat.pow_add]; exact Nat.mul_lt_mul'' hp.1 hq.2
  have h2 : p.den * q.num.natAbs < 2 ^ (m + n) := by
    rw [Nat.pow_add]; exact Nat.mul_lt_mul'' hp.2 hq.1
  have h0 : p.den * q.num.natAbs ≠ 0 := Nat.mul_ne_zero p.den_nz (by omega)
  unfold quo
  split
  · exact mk_small h1 h2 h0
  · exact mk_small (by rw [Int.natAbs_neg]; exact h1) h2 h0
theorem quo_by (p q : Rat) (h : q.num ≠ 0) : (0 < q.num ∧ (p.den : Int) * q.num = ((p.den * q.num.natAbs : Nat) : Int)) ∨ (¬ 0 < q.num ∧ (p.den : Int) * q.num = -((p.den * q.num.natAbs : Nat) : Int)) := by
  by_cases hp : 0 < q.num
  · refine .inl ⟨hp, ?_⟩
    have e : ((q.num.natAbs : Nat) : Int) = q.num := by omega
    push_cast
    rw [e]
  · refine .inr ⟨hp, ?_⟩
    have e : ((q.num.natAbs : Nat) : Int) = -q.num := by omega
    push_cast
    rw [e, Int.mul_neg, Int.neg_neg]
theorem s_divided (k : Nat) (p q : Rat) (S : Store) {m n : Nat} (hp : Sm m p) (hq : Sm n q) (h : m + n ≤ 8990) (h0 : q.num ≠ 0) : R (k + 3) 35 [fr p, fr q] S = .ok (fr (quo p q)) S := by
  obtain ⟨m1, m2, m3, m4, m5⟩ := muls S hp hq (by omega)
  have hd : p.den * q.num.natAbs < 2 ^ 8999 := Nat.lt_of_lt_of_le (show p.den * q.num.natAbs < 2 ^ (m + n) by rw [Nat.pow_add]; exact Nat.mul_lt_mul'' hp.2 hq.1) (Nat.pow_le_pow_right (by decide) (by omega))
  have hn : p.den * q.num.natAbs ≠ 0 := Nat.mul_ne_zero p.den_nz (by omega)
  rw [R, run_at at_divided rfl]
  rcases quo_by p q h0 with ⟨hs, e⟩ | ⟨hs, e⟩
  · have e1 := s_made k (p.num * q.den) (p.den * q.num.natAbs) S hn hd
    rw [← e] at e1
    simp [F_divided, startD, m1, m4, e1, quo, hs]
  · have e1 := s_made_neg k (p.num * q.den) (p.den * q.num.natAbs) S hn hd
    rw [← e] at e1
    simp [F_divided, startD, m1, m4, e1, quo, hs]
theorem s_mc_over (k : Nat) (p q : Rat) (S : Store) {m n : Nat} (hp : Sm m p) (hq : Sm n q) (h : m + n ≤ 8990) (h0 : q.num ≠ 0) : R (k + 3) 37 [fr p, fr q] S = .ok (fr (quo p q)) S := by
  obtain ⟨m1, m2, m3, m4, m5⟩ := muls S hp hq (by omega)
  have hd : p.den * q.num.natAbs < 2 ^ 8999 := Nat.lt_of_lt_of_le (show p.den * q.num.natAbs < 2 ^ (m + n) by rw [Nat.pow_add]; exact Nat.mul_lt_mul'' hp.2 hq.1) (Nat.pow_le_pow_right (by decide) (by omega))
  have hn : p.den * q.num.natAbs ≠ 0 := Nat.mul_ne_zero p.den_nz (by omega)
  rw [R, run_at at_law_mc_over rfl]
  rcases quo_by p q h0 with ⟨hs, e⟩ | ⟨hs, e⟩
  · have e1 := s_mc_fr k (p.num * q.den) (p.den * q.num.natAbs) S hn hd
    rw [← e] at e1
    simp [F_law_mc_over, startD, m1, m4, e1, quo, hs]
  · have e1 := s_mc_fr_neg k (p.num * q.den) (p.den * q.num.natAbs) S hn hd
    rw [← e] at e1
    simp [F_law_mc_over, startD, m1, m4, e1, quo, hs]
theorem num_zero {q : Rat} : q = 0 ↔ q.num = 0 := by
  constructor
  · intro h; rw [h]; rfl
  · exact Rat.num_eq_zero.mp
theorem s_over (k : Nat) (p q : Rat) (S : Store) {m n : Nat} (hp : Sm m p) (hq : Sm n q) (h : m + n ≤ 8990) (h0 : q.num ≠ 0) : R (k + 5) 36 [fr p, fr q] S = .ok (fr (quo p q)) S := by
  have hz : ¬ q = 0 := fun z => h0 (num_zero.mp z)
  rw [R, run_at at_over rfl]
  simp [F_over, startD, s_require_both _ _ _ _ (hp.mono (show m ≤ 16000 by omega)) (hq.mono (show n ≤ 16000 by omega)), s_divided _ _ _ _ hp hq h h0, hz]
theorem s_mc_minus (k : Nat) (p q : Rat) (S : Store) {m n : Nat} (hp : Sm m p) (hq : Sm n q) (h : m + n ≤ 8990) : R (k + 3) 30 [fr p, fr q] S = .ok (fr (p - q)) S := by
  obtain ⟨m1, m2, m3, m4, m5⟩ := muls S hp hq (by omega)
  have hd : p.den * q.den < 2 ^ 8999 := Nat.lt_of_lt_of_le (show p.den * q.den < 2 ^ (m + n) by rw [Nat.pow_add]; exact Nat.mul_lt_mul'' hp.2 hq.2) (Nat.pow_le_pow_right (by decide) (by omega))
  have e := s_mc_fr k (p.num * q.den - q.num * p.den) (p.den * q.den) S (Nat.mul_ne_zero p.den_nz q.den_nz) hd
  rw [← Rat.sub_def'] at e
  rw [R, run_at at_law_mc_minus rfl]
  simp [F_law_mc_minus, startD, m1, m2]
  simp at m3 e
  simp [m3, e]
theorem s_mc_at_most (k : Nat) (p q : Rat) (S : Store) {m n : Nat} (hp : Sm m p) (hq : Sm n q) (h : m + n ≤ 8990) : R (k + 1) 54 [fr p, fr q] S = .ok (.bl (decide (p ≤ q))) S := by
  obtain ⟨m1, m2, _⟩ := muls S hp hq (by omega)
  rw [R, run_at at_law_mc_at_most rfl]
  simp [F_law_mc_at_most, startD, m1, m2, Rat.le_iff]
theorem s_fraction (k : Nat) (a : Int) (b : Nat) (S : Store) (h0 : b ≠ 0) (h : b < 2 ^ 8999) : R (k + 3) 34 [.int a, .int b] S = .ok (fr (mkRat a b)) S := by
  rw [R, run_at at_fraction rfl]
  have hb : ¬ (b : Int) = 0 := by omega
  simp [F_fraction, startD, fits_le, forGo, asg, s_is_integer, h0, s_made _ _ _ _ h0 h]
theorem s_fraction_neg (k : Nat) (a : Int) (b : Nat) (S : Store) (h0 : b ≠ 0) (h : b < 2 ^ 8999) : R (k + 3) 34 [.int a, .int (-(b : Int))] S = .ok (fr (mkRat (-a) b)) S := by
  rw [R, run_at at_fraction rfl]
  have hb : ¬ (b : Int) = 0 := by omega
  simp [F_fraction, startD, fits_le, forGo, asg, s_is_integer, h0, s_made_neg _ _ _ _ h0 h]
theorem c_neBl (a b : Bool) (S : Store) : cmp2 .ne (.bl a) (.bl b) S = .ok (!(a == b)) S := by
  rw [c_ne rfl rfl (by simp [plain]) (by simp [plain])]; simp [eqv]
theorem c_neQ (q : Rat) (S : Store) : cmp2 .ne (fr q) (fr q) S = .ok false S := by rw [c_neF]; simp
theorem c_eqQ (q : Rat) (S : Store) : cmp2 .eq (fr q) (fr q) S = .ok true S := by rw [c_eqF]; simp
theorem sub_sign (p q : Rat) : (if 0 < (p - q).num then (1 : Int) else if (p - q).num < 0 then -1 else 0) = if p < q then -1 else if p = q then 0 else 1 := by
  by_cases h1 : p < q
  · have h2 : p - q < 0 := by
      have := (Rat.lt_iff_sub_pos p q).mp h1
      grind
    have h3 : (p - q).num < 0 := by
      have h4 : ¬ 0 ≤ p - q := Rat.not_le.mpr h2
      exact Int.not_le.mp fun z => h4 (Rat.num_nonneg.mp z)
    rw [if_pos h1, if_neg (by omega), if_pos h3]
  · by_cases h2 : p = q
    · subst h2
      have : p - p = 0 := by grind
      rw [if_neg h1, if_pos rfl, this]; rfl
    · have h3 : q < p := by
        rcases Rat.le_iff_lt_or_eq.mp (Rat.not_lt.mp h1) with h | h
        · exact h
        · exact absurd h.symm h2
      have h4 : 0 < p - q := (Rat.lt_iff_sub_pos q p).mp h3
      have h5 : 0 < (p - q).num := by
        have h6 := (Rat.num_nonneg (q := p - q)).mpr (Rat.le_of_lt h4)
        have h7 : (p - q).num ≠ 0 := fun z => by
          have := Rat.num_eq_zero.mp z
          rw [this] at h4
          exact absurd h4 (by decide)
        omega
      rw [if_neg h1, if_neg h2, if_pos h5]
theorem s_two_right (k : Nat) (dd : D) (p q : Rat) (S : Store) (hp : Sm 120 p) (hq : Sm 120 q) : R (k + 6) 38 [dd, fr p, fr q] S = .ok (.bl true) S := by
  have pq : (120 : Nat) + 120 ≤ 8990 := by decide
  have f1 := s_plus k p q S hp hq pq
  have f2 := s_mc_plus (k + 2) p q S hp hq pq
  have f3 := s_minus k p q S hp hq pq
  have f4 := s_mc_minus (k + 2) p q S hp hq pq
  have f5 := s_times k p q S hp hq pq
  have f6 := s_mc_times (k + 2) p q S hp hq pq
  have f7 := s_is_less k p q S hp hq pq
  obtain ⟨m1, m2, m3, m4, m5⟩ := muls S hp hq (show 120 + 120 ≤ 100000 by decide)
  have hs : Sm 241 (p - q) := by rw [Rat.sub_eq_add_neg]; exact hp.add hq.neg
  have f8 := s_sign_of (k + 1) (p - q) S (hs.mono (by decide))
  rw [sub_sign] at f8
  have dn : p.den * q.den ≠ 0 := Nat.mul_ne_zero p.den_nz q.den_nz
  have dl : p.den * q.den < 2 ^ 240 := by
    have := Nat.mul_lt_mul'' hp.2 hq.2
    rw [← Nat.pow_add] at this; exact this
  have dl1 : p.den < 2 ^ 120 := hp.2
  have f9 := s_fraction (k + 2) (p.num * q.den) (p.den * q.den) S dn (Nat.lt_of_lt_of_le dl (Nat.pow_le_pow_right (by decide) (by decide)))
  rw [Rat.mkRat_mul_right q.den_nz, Rat.mkRat_self] at f9
  have f10 := s_fraction_neg (k + 2) (-p.num * 3) (p.den * 3) S (Nat.mul_ne_zero p.den_nz (by decide)) (Nat.lt_of_lt_of_le (show p.den * 3 < 2 ^ 130 by
    have : (2 : Nat) ^ 130 = 2 ^ 120 * 2 ^ 10 := by decide
    have h10 : (2 : Nat) ^ 10 = 1024 := by decide
    rw [this, h10]
    generalize (2 : Nat) ^ 120 = z at *
    omega) (Nat.pow_le_pow_right (by decide) (by decide)))
  have e10 : mkRat (-(-p.num * 3)) (p.den * 3) = p := by
    have : -(-p.num * 3) = p.num * ((3 : Nat) : Int) := by omega
    rw [this, Rat.mkRat_mul_right (by decide), Rat.mkRat_self]
  rw [e10] at f10
  have m6 : op2 .mul (.int (-p.num)) (.int 3) S = .ok (.int (-p.num * 3)) S := mul_ok S (by rw [Int.natAbs_neg]; exact hp.1) (show (3 : Int).natAbs < 2 ^ 2 by decide) (by decide)
  have m7 : op2 .mul (.int (-(p.den : Int))) (.int 3) S = .ok (.int (-((p.den * 3 : Nat) : Int))) S := by
    have := mul_ok (a := -(p.den : Int)) (b := 3) (m := 120) (n := 2) S (by rw [Int.natAbs_neg, Int.natAbs_natCast]; exact hp.2) (by decide) (by decide)
    show opMul (.int (-(p.den : Int))) (.int 3) S = _
    rw [this]
    congr 2
    push_cast
    omega
  have lt : decide (p.num * (q.den : Int) < q.num * p.den) = decide (p < q) := by
    have := Rat.lt_iff p q
    by_cases h : p < q
    · rw [decide_eq_true h, decide_eq_true (this.mp h)]
    · rw [decide_eq_false h, decide_eq_false (fun z => h (this.mpr z))]
  have f3' : DL.run fns gcons (k + 5) 29 [fr p, fr q] S = .ok (fr (p - q)) S := f3
  have fz : ∀ b : Bool, cmp2 .ne (.bl b) (.bl b) S = .ok false S := fun b => by rw [c_neBl]; simp
  have nI : ∀ i : Int, cmp2 .ne (.int i) (.int i) S = .ok false S := fun i => by rw [c_neI]; simp
  have f4' : DL.run fns gcons (k + 5) 30 [fr p, fr q] S = .ok (fr (p - q)) S := f4
  have f2' : DL.run fns gcons (k + 5) 3 [fr p, fr q] S = .ok (fr (p + q)) S := f2
  have f6' : DL.run fns gcons (k + 5) 26 [fr p, fr q] S = .ok (fr (p * q)) S := f6
  have f8' : DL.run fns gcons (k + 5) 33 [fr (p - q)] S = .ok (.int (if p < q then -1 else if p = q then 0 else 1)) S := f8
  have f9' : DL.run fns gcons (k + 5) 34 [.int (p.num * q.den), .int ((p.den * q.den : Nat) : Int)] S = .ok (fr p) S := f9
  have f10' : DL.run fns gcons (k + 5) 34 [.int (-p.num * 3), .int (-((p.den * 3 : Nat) : Int))] S = .ok (fr p) S := f10
  rw [Int.natCast_mul] at m3 f9'
  have c3 : ((p.den * 3 : Nat) : Int) = (p.den : Int) * 3 := by push_cast; rfl
  rw [c3] at m7 f10'
  have hov : (cmp2 .ne (.int q.num) (.int 0) S = .ok false S) ∨ (cmp2 .ne (.int q.num) (.int 0) S = .ok true S ∧ DL.run fns gcons (k + 5) 36 [fr p, fr q] S = .ok (fr (quo p q)) S ∧ DL.run fns gcons (k + 5) 37 [fr p, fr q] S = .ok (fr (quo p q)) S ∧
      DL.run fns gcons (k + 5) 25 [fr (quo p q), fr q] S = .ok (fr p) S) := by
    by_cases hz : q.num = 0
    · exact .inl (by rw [c_neI, decide_eq_true hz]; rfl)
    · refine .inr ⟨by rw [c_neI, decide_eq_false hz]; rfl, s_over k p q S hp hq pq hz, s_mc_over (k + 2) p q S hp hq pq hz, ?_⟩
      have := s_times k (quo p q) q S (quo_small hp hq hz) hq (by decide)
      rw [quo_mul hz] at this
      exact this
  have cI : cmp2 .ne (fr p) (fr q) S = .ok (!decide (p = q)) S := c_neF
  rw [R, run_at at_law_two_right rfl]
  by_cases h : p < q
  · have hne : ¬ p = q := fun z => by rw [z] at h; exact Rat.lt_irrefl h
    rw [if_pos h] at f8'
    rw [decide_eq_true h] at f7 lt
    rcases hov with o1 | ⟨o1, o2, o3, o4⟩
    · simp [F_law_two_right, startD, f1, f2', f3', f4', f5, f6', c_neQ, o1, m1, m2, lt, f7, fz, f8', nI, m3, f9', m6, m7, f10', c_eqQ, -c_eqF, -c_neF, -c_neI]
    · simp [F_law_two_right, startD, f1, f2', f3', f4', f5, f6', c_neQ, o1, o2, o3, o4, m1, m2, lt, f7, fz, f8', nI, m3, f9', m6, m7, f10', c_eqQ, -c_eqF, -c_neF, -c_neI]
  · rw [if_neg h] at f8'
    rw [decide_eq_false h] at f7 lt
    by_cases he : p = q
    · rw [if_pos he] at f8'
      rw [decide_eq_true he] at cI
      rcases hov with o1 | ⟨o1, o2, o3, o4⟩
      · simp [F_law_two_right, startD, f1, f2', f3', f4', f5, f6', c_neQ, o1, m1, m2, lt, f7, fz, f8', nI, m3, f9', m6, m7, f10', c_eqQ, cI, -c_eqF, -c_neF, -c_neI]
      · simp [F_law_two_right, startD, f1, f2', f3', f4', f5, f6', c_neQ, o1, o2, o3, o4, m1, m2, lt, f7, fz, f8', nI, m3, f9', m6, m7, f10', c_eqQ, cI, -c_eqF, -c_neF, -c_neI]
    · rw [if_neg he] at f8'
      rw [decide_eq_false he] at cI
      rcases hov with o1 | ⟨o1, o2, o3, o4⟩
      · simp [F_law_two_right, startD, f1, f2', f3', f4', f5, f6', c_neQ, o1, m1, m2, lt, f7, fz, f8', nI, m3, f9', m6, m7, f10', c_eqQ, cI, -c_eqF, -c_neF, -c_neI]
      · simp [F_law_two_right, startD, f1, f2', f3', f4', f5, f6', c_neQ, o1, o2, o3, o4, m1, m2, lt, f7, fz, f8', nI, m3, f9', m6, m7, f10', c_eqQ, cI, -c_eqF, -c_neF, -c_neI]
end LW
end
section
set_option Elab.async false
set_option autoImplicit false
set_option linter.all false
set_option maxRecDepth 100000
set_option maxHeartbeats 2000000
set_option exponentiation.threshold 200
namespace LW
open DL
/-! ### digits there and back -/
abbrev stp (a c : Nat) : Nat := a * 10 + (c - 48)
theorem dg_val : ∀ (f n : Nat) (acc : List Nat), n < 10 ^ f → (digitsN f n acc).foldl stp 0 = acc.foldl stp n
  | 0, n, acc, h => by
    have : n = 0 := by simpa using h
    subst this
    rfl
  | f + 1, n, acc, h => by
    have e : stp (n / 10) (48 + n % 10) = n := by
      show n / 10 * 10 + (48 + n % 10 - 48) = n
      omega
    unfold digitsN
    split
    · rename_i h0
      have e2 : stp 0 (48 + n % 10) = n := by
        show 0 * 10 + (48 + n % 10 - 48) = n
        omega
      rw [List.foldl_cons, e2]
    · rw [dg_val f (n / 10) _ (by rw [Nat.pow_succ] at h; omega), List.foldl_cons, e]
theorem dg_head : ∀ (f n : Nat) (acc : List Nat), n < 10 ^ f → 0 < f → ∃ c r, digitsN f n acc = c :: r ∧ 48 ≤ c ∧ c ≤ 57 ∧ (c = 48 → n = 0 ∧ r = acc)
  | 0, n, acc, h, h0 => by omega
  | f + 1, n, acc, h, _ => by
    unfold digitsN
    split
    · rename_i h0
      exact ⟨48 + n % 10, acc, rfl, by omega, by omega, fun z => ⟨by omega, rfl⟩⟩
    · rename_i h0
      have hf : 0 < f := by
        rcases Nat.eq_zero_or_pos f with z | z
        · subst z
          exact absurd (show n / 10 = 0 by simp at h; omega) h0
        · exact z
      obtain ⟨c, r, e, h1, h2, h3⟩ := dg_head f (n / 10) ((48 + n % 10) :: acc) (by rw [Nat.pow_succ] at h; omega) hf
      exact ⟨c, r, e, h1, h2, fun z => absurd (h3 z).1 h0⟩
theorem dg_all : ∀ (f n : Nat) (acc : List Nat), (∀ c ∈ acc, 48 ≤ c ∧ c ≤ 57) → ∀ c ∈ digitsN f n acc, 48 ≤ c ∧ c ≤ 57
  | 0, n, acc, h => by simpa [digitsN] using h
  | f + 1, n, acc, h => by
    have h2 : ∀ c ∈ (48 + n % 10) :: acc, 48 ≤ c ∧ c ≤ 57 := fun c hc => by
      rcases List.mem_cons.mp hc with rfl | hc
      · omega
      · exact h c hc
    unfold digitsN
    split
    · exact h2
    · exact dg_all f (n / 10) _ h2
/-- the digits of a number -/
def tn (n : Nat) : List Nat := digitsN (n.log2 + 1) n []
theorem lt_ten (n : Nat) : n < 10 ^ (n.log2 + 1) := Nat.lt_of_lt_of_le Nat.lt_log2_self (Nat.pow_le_pow_left (by decide) _)
theorem tn_val (n : Nat) : digVal (tn n) = n := dg_val _ n [] (lt_ten n)
theorem tn_all (n : Nat) : ∀ c ∈ tn n, 48 ≤ c ∧ c ≤ 57 := dg_all _ n [] (by simp)
theorem tn_head (n : Nat) : ∃ c r, tn n = c :: r ∧ 48 ≤ c ∧ c ≤ 57 ∧ (c = 48 → r = []) := by
  obtain ⟨c, r, e, h1, h2, h3⟩ := dg_head (n.log2 + 1) n [] (lt_ten n) (by omega)
  exact ⟨c, r, e, h1, h2, fun z => (h3 z).2⟩
theorem tn_len {n : Nat} (h : n < 2 ^ 1900) : (tn n).length ≤ 2000 := by
  have hb := log_of h (by decide)
  have := digitsN_len (n.log2 + 1) n []
  unfold tn
  simp at this
  omega
theorem intText_nat (n : Nat) : intText (n : Int) = tn n := by
  unfold intText tn
  have : ¬ (n : Int) < 0 := by omega
  rw [if_neg this, Int.natAbs_natCast]
theorem intText_neg {i : Int} (h : i < 0) : intText i = 45 :: tn i.natAbs := by
  unfold intText tn
  rw [if_pos h]
theorem no_slash (n : Nat) : 47 ∉ tn n := fun h => by have := tn_all n 47 h; omega
theorem no_slashI (i : Int) : 47 ∉ intText i := fun h => by
  by_cases hi : i < 0
  · rw [intText_neg hi] at h
    rcases List.mem_cons.mp h with h | h
    · omega
    · exact no_slash _ h
  · have e : i = (i.natAbs : Int) := by omega
    rw [e, intText_nat] at h
    exact no_slash _ h
/-- split at a sign that is not there, or there once -/
theorem split_no (c : Nat) : ∀ (x acc : List Nat), c ∉ x → splitL c x acc = [acc.reverse ++ x]
  | [], acc, _ => by simp [splitL]
  | d :: x, acc, h => by
    have hd : ¬ d = c := fun z => h (by rw [z]; exact List.mem_cons_self)
    rw [splitL, if_neg hd, split_no c x (d :: acc) fun z => h (List.mem_cons_of_mem _ z)]
    simp
theorem split_one (c : Nat) (y : List Nat) (hy : c ∉ y) : ∀ (x acc : List Nat), c ∉ x → splitL c (x ++ c :: y) acc = [acc.reverse ++ x, y]
  | [], acc, _ => by
    rw [List.nil_append, splitL, if_pos rfl, split_no c y [] hy]
    simp
  | d :: x, acc, h => by
    have hd : ¬ d = c := fun z => h (by rw [z]; exact List.mem_cons_self)
    rw [List.cons_append, splitL, if_neg hd, split_one c y hy x (d :: acc) fun z => h (List.mem_cons_of_mem _ z)]
    simp
@[simp] theorem g_digits : gcons[1]? = some (.int 4000) := Eq.trans rfl rfl
@[simp] theorem g_signs : gcons[2]? = some (.str [48, 49, 50, 51, 52, 53, 54, 55, 56, 57]) := Eq.trans rfl rfl
theorem chars_map : ∀ x : List Nat, charsD x = x.map fun c => D.str [c]
  | [] => rfl
  | c :: x => by rw [charsD, chars_map x]; rfl
theorem all_chars (k : Nat) (x : List Nat) (S : Store) (h : ∀ c ∈ x, 48 ≤ c ∧ c ≤ 57) (hl : x.length ≤ 4000) (σ : Env) (hσ : 6 ≤ σ.length) :
    compGo (.nm 5) (evC (DL.run fns gcons k) gcons none) (evE (DL.run fns gcons k) gcons (.cmp .inn (.slot 5) (.gcon 2))) σ (charsD x) [] S = .ok (.lst (x.map fun _ => D.bl true)) S := by
  rw [chars_map, comp_of (fun c : Nat => D.str [c]) (fun _ => D.bl true) (fun c => σ.set 5 (some (.str [c]))) (fun _ _ => x_c0) S x []]
  · simp
  · intro c hc
    refine ⟨rfl, ?_⟩
    have a1 : (σ.set 5 (some (D.str [c])))[5]? = some (some (.str [c])) := by rw [List.getElem?_set_self (by omega)]
    have hin : cmp2 .inn (.str [c]) (.str [48, 49, 50, 51, 52, 53, 54, 55, 56, 57]) S = .ok true S := by
      have h2 := h c hc
      have : c ∈ [48, 49, 50, 51, 52, 53, 54, 55, 56, 57] := by
        simp only [List.mem_cons, List.not_mem_nil, or_false]
        omega
      show ofOpt (some (decide (c ∈ [48, 49, 50, 51, 52, 53, 54, 55, 56, 57]))) S = _
      rw [decide_eq_true this]; rfl
    simp only [x_cmp, x_slot, a1, x_gcon, g_signs, x_bind, hin]
  · simp [bigN]; omega
theorem c_S {x y : List Nat} (hx : low x) (hy : low y) (S : Store) : cmp2 .eq (.str x) (.str y) S = .ok (decide (x = y)) S := by
  rw [c_eq rfl rfl (plain_low hx) (plain_low hy)]
  simp [eqv]
theorem low_tn (n : Nat) : low (tn n) := fun c hc => by have := tn_all n c hc; omega
theorem low_of {x : List Nat} (h : ∀ c ∈ x, c ≤ 57) : low x := fun c hc => by have := h c hc; omega
theorem cut_all (x : List Nat) (n : Nat) (h : x.length = n) : cut x none (some (n : Int)) = x := by
  unfold cut clip
  have h1 : ¬ (n : Int) < 0 := by omega
  simp [h1, h]
  rw [← h, List.take_length]
theorem x_irng3 {cl : Cl} {gc : List D} {σ : Env} {S : Store} (a b c : E) : evI cl gc (.rng3 a b c) σ S = (evE cl gc a σ S).bind fun x S => (evE cl gc b σ S).bind fun y S => (evE cl gc c σ S).bind fun z S => rng3 x y z S := by rw [evI]
theorem s_digits_in (k n : Nat) (S : Store) (h : n < 2 ^ 1900) : R (k + 2) 46 [.str (tn n)] S = .ok (.int n) S := by
  obtain ⟨c, r, e, h1, h2, h3⟩ := tn_head n
  have hl := tn_len h
  have hall := tn_all n
  have hlow := low_tn n
  have hne : ¬ tn n = [] := by rw [e]; simp
  have e1 : cmp2 .eq (.str (tn n)) (.str []) S = .ok false S := by rw [c_S hlow (fun c hc => by simp at hc), decide_eq_false hne]
  have e2 := all_chars (k + 1) (tn n) S hall (by omega)
  have i0 : item (.str (tn n)) (.int 0) S = .ok (.str [c]) S := by
    show (if fits (tn n).length = true then (match (ixAt (tn n).length 0).bind fun j => (tn n)[j]? with | some c => Out.ok (D.str [c]) S | none => .bad) else .bad) = _
    rw [if_pos (fits_le (by omega)), e]
    simp [ixAt]
  have e3 : cmp2 .eq (.str [c]) (.str [48]) S = .ok (decide (c = 48)) S := by
    rw [c_S (low_of (by simp; omega)) (low_of (by simp))]
    simp
  have e4 : cmp2 .ne (.str (tn n)) (.str [48]) S = .ok (!decide (tn n = [48])) S := c_neS hlow (low_of (by simp)) S
  have lS : lenD (.str (tn n)) S = .ok (.int (tn n).length) S := by
    show (match (if fits (tn n).length = true then some (tn n).length else none) with | some n => Out.ok (D.int n) S | none => .bad) = _
    rw [if_pos (fits_le (by omega))]
  have hm : op2 .mod (.int (tn n).length) (.int 4000) S = .ok (.int (tn n).length) S := by
    show (if decide ((4000 : Int) ≠ 0) = true then (Out.ok (D.int (((tn n).length : Int).fmod 4000)) S : Out D) else .bad) = _
    rw [if_pos (by decide), Int.fmod_eq_emod_of_nonneg _ (by decide), Int.emod_eq_of_lt (by omega) (by omega)]
  have hpos : (0 : Int) < (tn n).length := by rw [e]; simp
  have hpos2 : 0 < (tn n).length := by rw [e]; simp
  have sl : slice (.str (tn n)) none (some ((tn n).length : Int)) S = .ok (.str (tn n)) S := by
    show (if fits (tn n).length = true then (Out.ok (D.str (cut (tn n) none (some ((tn n).length : Int)))) S : Out D) else .bad) = _
    rw [if_pos (fits_le (by omega)), cut_all _ _ rfl]
  have hi : intD (.str (tn n)) S = .ok (.int n) S := by
    have : intOf (tn n) = some n := by
      unfold intOf
      rw [if_pos, tn_val]
      simp only [Bool.and_eq_true, List.all_eq_true]
      refine ⟨⟨fun c hc => ⟨Nat.ble_eq_true_of_le (hall c hc).1, Nat.ble_eq_true_of_le (hall c hc).2⟩, by rw [e]; rfl⟩, Nat.ble_eq_true_of_le (by omega)⟩
    show (match intOf (tn n) with | some n => Out.ok (D.int n) S | none => .bad) = _
    rw [this]
  have hr : rng3 (.int (tn n).length) (.int (tn n).length) (.int 4000) S = .ok [] S := by
    have z1 : PySem.Builtin.Range.rangeSize (tn n).length (tn n).length 4000 = 0 := by simp [PySem.Builtin.Range.rangeSize]
    have z2 : PySem.Builtin.Range.small (tn n).length (tn n).length 4000 = true := by
      unfold PySem.Builtin.Range.small
      rw [z1]
      simp [PySem.Builtin.Range.rangeFitsLong]
      omega
    simp [rng3, z1, z2, rangeD]
  rw [R, run_at at_digits_in rfl]
  by_cases h48 : c = 48
  · have et : tn n = [48] := by rw [e, h48, h3 h48]
    rw [decide_eq_true h48] at e3
    rw [decide_eq_true et] at e4
    simp [F_digits_in, startD, e1, e2, wipeD, all_true, i0, e3, e4, lS, hm, fits_le, s_great_step, hpos, hpos2, sl, hi, hr, forGo, x_irng3]
  · rw [decide_eq_false h48] at e3
    simp [F_digits_in, startD, e1, e2, wipeD, all_true, i0, e3, lS, hm, fits_le, s_great_step, hpos, hpos2, sl, hi, hr, forGo, x_irng3]
end LW
end
section
set_option Elab.async false
set_option autoImplicit false
set_option linter.all false
set_option maxRecDepth 100000
set_option maxHeartbeats 2000000
set_option exponentiation.threshold 200
namespace LW
open DL
theorem low_I (i : Int) : low (intText i) := low_int i
theorem sl_str {x : List Nat} {lo hi : Option Int} {S : Store} (h : x.length ≤ 16777216) : slice (.str x) lo hi S = .ok (.str (cut x lo hi)) S := by
  show (if fits x.length = true then (Out.ok (D.str (cut x lo hi)) S : Out D) else .bad) = _
  rw [if_pos (fits_le h)]
theorem s_number_in (k : Nat) (i : Int) (S : Store) (h : i.natAbs < 2 ^ 1900) : R (k + 3) 47 [.str (intText i)] S = .ok (.int i) S := by
  have hlen := intText_len h
  have c0 : cut (intText i) none (some 1) = (intText i).take 1 := by
    unfold cut clip
    simp
  have c1 : cut (intText i) (some 1) none = (intText i).drop 1 := by
    unfold cut clip
    simp
    have : min 1 (intText i).length = 1 ∨ (intText i).length = 0 := by omega
    rcases this with e | e
    · rw [e]
      rw [List.take_of_length_le (by simp)]
      simp
    · rw [List.eq_nil_of_length_eq_zero e]; simp
  have lowT : low ((intText i).take 1) := fun c hc => low_I i c (List.mem_of_mem_take hc)
  have e0 := c_neS lowT (low_of (x := [45]) (by simp)) S
  rw [R, run_at at_number_in rfl]
  by_cases hi : i < 0
  · have et := intText_neg hi
    have e1 := s_digits_in k i.natAbs S h
    have t1 : (intText i).take 1 = [45] := by rw [et]; rfl
    have d1 : (intText i).drop 1 = tn i.natAbs := by rw [et]; rfl
    rw [t1] at c0 e0
    rw [d1] at c1
    have en : ((i.natAbs : Nat) : Int) ≠ 0 := by omega
    have eb : -((i.natAbs : Nat) : Int) = i := by omega
    have s0 := sl_str (x := intText i) (lo := none) (hi := some 1) (S := S) (by omega)
    have s1 := sl_str (x := intText i) (lo := some 1) (hi := none) (S := S) (by omega)
    rw [c0] at s0
    rw [c1] at s1
    have ei : cmp2 .ne (.int ((i.natAbs : Nat) : Int)) (.int 0) S = .ok true S := by rw [c_neI, decide_eq_false en]; rfl
    generalize hz : ((i.natAbs : Nat) : Int) = z at *
    simp [F_number_in, startD, s0, e0, s1, e1, ei, eb, -c_neI]
  · have en : i = (i.natAbs : Int) := by omega
    generalize hm : i.natAbs = m at *
    subst en
    have e1 := s_digits_in k m S h
    obtain ⟨c, r, e, h1, h2, h3⟩ := tn_head m
    have et := intText_nat m
    have t1 : (intText (m : Int)).take 1 = [c] := by rw [et, e]; rfl
    rw [t1] at c0 e0
    have s0 := sl_str (x := intText (m : Int)) (lo := none) (hi := some 1) (S := S) (by omega)
    rw [c0] at s0
    have hc : ¬ [c] = [45] := by simp; omega
    rw [decide_eq_false hc] at e0
    rw [et] at s0 ⊢
    simp [F_number_in, startD, s0, e0, e1]
@[simp] theorem is_tupN (xs : List D) (S : Store) : cmp2 .is (.tup xs) .non S = .ok false S := Eq.trans rfl rfl
@[simp] theorem is_intN (i : Int) (S : Store) : cmp2 .is (.int i) .non S = .ok false S := Eq.trans rfl rfl
@[simp] theorem is_frN (q : Rat) (S : Store) : cmp2 .is (fr q) .non S = .ok false S := Eq.trans rfl rfl
theorem x_mth {cl : Cl} {gc : List D} {σ : Env} {S : Store} (o e : E) (h : ∀ z, e = .star z → False) : evE cl gc (.mth .split o [e]) σ S = (evE cl gc o σ S).bind fun x S => match x with | .str z => (evE cl gc e σ S).bind fun y S => mth .split (.str z) [y] S | _ => .bad := by
  rw [evE]
  cases evE cl gc o σ S <;> simp only [Out.bind]
  rename_i d S1
  cases d <;> simp only []
  rw [x_es _ _ h]
  cases evE cl gc e σ S1 <;> simp [Out.bind]
theorem s_number_by (k : Nat) (q : Rat) (S : Store) (h : Sm 1900 q) : R (k + 4) 48 [.str (txtF q)] S = .ok (fr q) S := by
  have hl := txtF_len h
  have hd : ((q.den : Int)).natAbs < 2 ^ 16001 := by
    rw [Int.natAbs_natCast]
    exact Nat.lt_trans h.2 (Nat.pow_lt_pow_right (by decide) (by decide))
  have hg := s_common_by (k + 2) q.num q.den S hd
  rw [Int.natAbs_natCast, q.reduced] at hg
  have e1 := s_number_in k q.num S h.1
  have e2 := s_digits_in (k + 1) q.den S h.2
  have hz : ¬ (q.den : Int) = 0 := by have := q.den_nz; omega
  have sp : ∀ ts, splitL 47 (txtF q) [] = ts → mth .split (.str (txtF q)) [.str [47]] S = .ok (.lst (ts.map .str)) S := fun ts hts => by
    show (if Nat.ble ((txtF q).length + 2) bigN = true then (Out.ok (D.lst ((splitL 47 (txtF q) []).map .str)) S : Out D) else .bad) = _
    rw [if_pos (Nat.ble_eq_true_of_le (by simp [bigN]; omega)), hts]
  rw [R, run_at at_number_by rfl]
  by_cases c : q.den = 1
  · have et : splitL 47 (txtF q) [] = [intText q.num] := by
      unfold txtF
      rw [if_pos c, split_no 47 _ [] (no_slashI _)]; rfl
    have m1 := sp _ et
    have i0 : item (.lst [.str (intText q.num)]) (.int 0) S = .ok (.str (intText q.num)) S := rfl
    have cd : (q.den : Int) = 1 := by omega
    rw [cd] at hg
    have hfr : fr q = .tup [.int q.num, .int 1] := by rw [fr, cd]
    rw [hfr]
    simp [F_number_by, startD, x_mth, m1, i0, e1, hg, fits_le]
  · have et : splitL 47 (txtF q) [] = [intText q.num, tn q.den] := by
      unfold txtF
      rw [if_neg c, intText_nat, split_one 47 _ (no_slash _) _ [] (no_slashI _)]; rfl
    have m1 := sp _ et
    have i0 : item (.lst [.str (intText q.num), .str (tn q.den)]) (.int 0) S = .ok (.str (intText q.num)) S := rfl
    have i1 : item (.lst [.str (intText q.num), .str (tn q.den)]) (.int 1) S = .ok (.str (tn q.den)) S := rfl
    have cd : ¬ (q.den : Int) = 1 := by omega
    simp [F_number_by, startD, x_mth, m1, i0, i1, e1, e2, hg, fits_le, cd, q.den_nz]
    rfl
theorem s_fraction_in (k : Nat) (q : Rat) (S : Store) (h : Sm 1900 q) : R (k + 5) 49 [.str (txtF q)] S = .ok (fr q) S := by
  rw [R, run_at at_fraction_in rfl]
  simp [F_fraction_in, startD, tyIs, s_number_by _ _ _ h]
theorem s_law_text (k : Nat) (q : Rat) (S : Store) (h : Sm 1900 q) : R (k + 1) 45 [fr q] S = .ok (.str (txtF q)) S := by
  have b1 := strD_ok h.1 S
  have b2 := strD_ok (show ((q.den : Int)).natAbs < 2 ^ 1900 by rw [Int.natAbs_natCast]; exact h.2) S
  have hlen := sm_txt h
  have b3 : op2 .add (.str [47]) (.str (intText q.den)) S = .ok (.str ([47] ++ intText q.den)) S := add_str (by simp; omega)
  have b4 : op2 .add (.str (intText q.num)) (.str ([47] ++ intText q.den)) S = .ok (.str (intText q.num ++ ([47] ++ intText q.den))) S := add_str (by simp; omega)
  have b5 : op2 .add (.str (intText q.num)) (.str []) S = .ok (.str (intText q.num ++ [])) S := add_str (by simp; omega)
  rw [R, run_at at_law_text rfl]
  by_cases c : q.den = 1
  · simp at b5
    simp [F_law_text, startD, b1, c, b5, txtF]
  · have c1 : ¬ (q.den : Int) = 1 := by omega
    simp at b3 b4
    simp [F_law_text, startD, b1, b2, b3, b4, c1, c, txtF]
theorem s_fraction_text (k : Nat) (q : Rat) (S : Store) (ok : OkS S) (h : Sm 1900 q) : R (k + 5) 44 [fr q] S = .ok (.str (txtF q)) S := by
  rw [R, run_at at_fraction_text rfl]
  simp [F_fraction_text, startD, s_require_fraction _ _ _ (h.mono (show 1900 ≤ 16000 by decide)), s_text_by _ _ _ ok h]
end LW
end
section
set_option Elab.async false
set_option autoImplicit false
set_option linter.all false
set_option maxRecDepth 100000
set_option maxHeartbeats 2000000
set_option exponentiation.threshold 200
namespace LW
open DL
def flo (q : Rat) : Int := q.num.fdiv q.den
theorem flo_b (q : Rat) : flo q * q.den ≤ q.num ∧ q.num < (flo q + 1) * q.den := by
  have h0 : (0 : Int) < q.den := by have := q.den_pos; omega
  unfold flo
  rw [Int.fdiv_eq_ediv_of_nonneg _ (by omega)]
  refine ⟨Int.ediv_mul_le _ (by omega), ?_⟩
  have := Int.lt_ediv_add_one_mul_self q.num h0
  exact this
theorem s_floor_of (k : Nat) (q : Rat) (S : Store) (h : Sm 8990 q) : R (k + 4) 39 [fr q] S = .ok (.int (flo q)) S := by
  have d : op2 .fdiv (.int q.num) (.int q.den) S = .ok (.int (flo q)) S := div_ok S q.den_nz (Nat.lt_trans h.2 (Nat.pow_lt_pow_right (by decide) (by decide)))
  rw [R, run_at at_floor_of rfl]
  simp [F_floor_of, startD, s_require_fraction _ _ _ (h.mono (show 8990 ≤ 16000 by decide)), d]
/-- so many times the product -/
def pwR (p : Rat) : Nat → Rat
  | 0 => 1
  | n + 1 => pwR p n * p
theorem pw_fold (p : Rat) : ∀ n : Nat, (List.range n).foldl (fun b _ => b * p) 1 = pwR p n
  | 0 => rfl
  | n + 1 => by rw [List.range_succ, List.foldl_append, pw_fold p n]; rfl
@[simp] theorem g_power : gcons[3]? = some (.int 60) := Eq.trans rfl rfl
theorem s_power (k : Nat) (p : Rat) (n : Nat) (S : Store) (hp : Sm 120 p) (hn : n ≤ 8) : R (k + 4) 52 [fr p, .int n] S = .ok (fr (pwR p n)) S := by
  obtain ⟨l', e1, _⟩ := for_fold (tg := .nm 3) (body := evB (DL.run fns gcons (k + 3)) gcons [.asg (.nm 2) (.call 24 [.slot 2, .slot 0])]) (fun i : Nat => D.int i) (fun b l => [some (fr p), some (.int n), some (fr b), l.map fun i : Nat => D.int i]) (fun a _ => a * p)
    (fun i b => ∃ m, Sm m b ∧ m + i * 121 ≤ 1 + n * 121) S (List.range n) 0 1 none ⟨1, Sm.one, by simp⟩ (fun x hx i b l ⟨m, hm, hi⟩ => by
      refine ⟨[some (fr p), some (.int n), some (fr b), some (.int x)], rfl, ?_, m + 120, hm.mul hp, by omega⟩
      simp [s_multiplied _ _ _ _ hm hp (by omega)])
  rw [pw_fold] at e1
  rw [R, run_at at_power rfl]
  simp [F_power, startD, s_require_fraction _ _ _ (hp.mono (show 120 ≤ 16000 by decide)), s_require_count _ _ _ _ _ (show (0 : Int) ≤ n ∧ (n : Int) ≤ 60 by omega), rng_nat n _ (show n < 1000000 by omega)]
  simp at e1
  rw [e1]
  simp
theorem not_integer (k : Nat) (d : D) (S : Store) (b c : Bool) (h1 : isD [.int] d S = .ok (.bl b) S) (h2 : isD [.bool] d S = .ok (.bl c) S) (h : (b && !c) = false) : R (k + 1) 8 [d] S = .ok (.bl false) S := by
  rw [R, run_at at_is_integer rfl]
  cases b with
  | false => simp [F_is_integer, startD, h1]
  | true =>
    have : c = true := by simpa using h
    subst this
    simp [F_is_integer, startD, h1, h2]
theorem nf_no (k : Nat) (d : D) (S : Store) (h : isD [.tup] d S = .ok (.bl false) S) : R (k + 2) 9 [d] S = .ok (.bl false) S := by
  rw [R, run_at at_is_fraction rfl]
  simp [F_is_fraction, startD, h]
theorem nf_len (k : Nat) (xs : List D) (S : Store) (h : xs.length ≠ 2) : R (k + 2) 9 [.tup xs] S = .ok (.bl false) S := by
  have h' : ¬ (xs.length : Int) = 2 := by omega
  rw [R, run_at at_is_fraction rfl]
  simp [F_is_fraction, startD, tyIs, h']
theorem nf_pair (k : Nat) (x y : D) (S : Store) (a b : Bool) (hx : R (k + 1) 8 [x] S = .ok (.bl a) S) (hy : R (k + 1) 8 [y] S = .ok (.bl b) S) (h : (a && b) = false) : R (k + 2) 9 [.tup [x, y]] S = .ok (.bl false) S := by
  have hx' : DL.run fns gcons (k + 1) 8 [x] S = .ok (.bl a) S := hx
  have hy' : DL.run fns gcons (k + 1) 8 [y] S = .ok (.bl b) S := hy
  rw [R, run_at at_is_fraction rfl]
  have : allD (.lst [.bl a, .bl b]) S = .ok (.bl false) S := by
    rw [all_lst _ [a, b] rfl]
    simp at h ⊢
    cases a <;> simp_all
  simp [F_is_fraction, startD, tyIs, compGo, asg, wipeD, hx', hy', this, bigN]
theorem nf_int (k : Nat) (a : Int) (b : Int) (S : Store) (hb : b.natAbs < 2 ^ 16001) (h : b < 1 ∨ Nat.gcd a.natAbs b.natAbs ≠ 1) : R (k + 2) 9 [.tup [.int a, .int b]] S = .ok (.bl false) S := by
  have e := s_common_by k a b S hb
  have i0 : item (.tup [.int a, .int b]) (.int 0) S = .ok (.int a) S := rfl
  have i1 : item (.tup [.int a, .int b]) (.int 1) S = .ok (.int b) S := rfl
  rw [R, run_at at_is_fraction rfl]
  have al : allD (.lst [.bl true, .bl true]) S = .ok (.bl true) S := by rw [all_lst _ [true, true] rfl]; simp
  by_cases h1 : b < 1
  · have h2 : ¬ 1 ≤ b := by omega
    simp [F_is_fraction, startD, tyIs, compGo, asg, wipeD, s_is_integer, al, bigN, i0, i1, h2]
  · have h2 : 1 ≤ b := by omega
    have h3 : Nat.gcd a.natAbs b.natAbs ≠ 1 := by
      rcases h with h | h
      · omega
      · exact h
    simp [F_is_fraction, startD, tyIs, compGo, asg, wipeD, s_is_integer, al, bigN, i0, i1, h2, e, h3]
    omega
theorem s_one_right (k n m : Nat) (p : Rat) (S : Store) (hD : Dice n (m + 1) S) (hp : Sm 120 p) : ∃ S', R (k + 6) 53 [.ref n, fr p] S = .ok (.bl true) S' ∧ Dice n m S' ∧ S'.length = S.length := by
  have ok := hD.1
  obtain ⟨v, S1, e1, hv, hd1, hl1⟩ := s_roll (k + 4) n m 8 S hD (by decide) (by decide)
  have hp19 : Sm 1900 p := hp.mono (by decide)
  have a1 := s_is_fraction (k + 3) p S (hp.mono (by decide))
  have a2 := s_fraction_text k p S ok hp19
  have a3 := s_law_text (k + 4) p S hp19
  have a4 := s_fraction_in k p S hp19
  have a5 := s_floor_of (k + 1) p S (hp.mono (by decide))
  obtain ⟨fb1, fb2⟩ := flo_b p
  have den0 : (p.den : Int) ≠ 0 := Sm.nz
  have denb : ((p.den : Int)).natAbs < 2 ^ 120 := by rw [Int.natAbs_natCast]; exact hp.2
  have flb : (flo p).natAbs < 2 ^ 121 := by
    have h1 : (flo p).natAbs ≤ p.num.natAbs := by
      unfold flo
      rw [Int.fdiv_eq_ediv_of_nonneg _ (by omega)]
      exact Int.natAbs_ediv_le_natAbs _ _
    exact Nat.lt_of_le_of_lt h1 (Nat.lt_trans hp.1 (by decide))
  have flb2 : (flo p + 1).natAbs < 2 ^ 122 := by
    have : (2 : Nat) ^ 122 = 2 * 2 ^ 121 := by decide
    rw [this]
    generalize (2 : Nat) ^ 121 = z at *
    omega
  have m1 : op2 .mul (.int (flo p)) (.int p.den) S1 = .ok (.int (flo p * p.den)) S1 := mul_ok S1 flb denb (by decide)
  have m2 : op2 .mul (.int (flo p + 1)) (.int p.den) S1 = .ok (.int ((flo p + 1) * p.den)) S1 := mul_ok S1 flb2 denb (by decide)
  have c1 : cmp2 .gt (.int (flo p * p.den)) (.int p.num) S1 = .ok false S1 := by rw [c_gtI, decide_eq_false (by omega)]
  have c2 : cmp2 .le (.int ((flo p + 1) * p.den)) (.int p.num) S1 = .ok false S1 := by rw [c_leI, decide_eq_false (by omega)]
  have a6 := s_power (k + 1) p v S1 hp (by omega)
  have a7 := s_power (k + 1) p 0 S1 hp (by omega)
  have a7' : DL.run fns gcons (k + 5) 52 [fr p, .int 0] S1 = .ok (fr 1) S1 := a7
  have g1 : ∃ l', forGo (.nm 3) (evB (DL.run fns gcons (k + 5)) gcons [.asg (.nm 2) (.call 26 [.slot 2, .slot 1])]) ((List.range v).map fun i : Nat => D.int i)
      [some (.ref n), some (fr p), some (fr 1), none, none, some (.int (flo p)), some (.int v), none] S1 = .nx [some (.ref n), some (fr p), some (fr (pwR p v)), l', none, some (.int (flo p)), some (.int v), none] S1 := by
    obtain ⟨l', e, _⟩ := for_fold (tg := .nm 3) (body := evB (DL.run fns gcons (k + 5)) gcons [.asg (.nm 2) (.call 26 [.slot 2, .slot 1])]) (fun i : Nat => D.int i) (fun b l => [some (.ref n), some (fr p), some (fr b), l.map (fun i : Nat => D.int i), none, some (.int (flo p)), some (.int v), none]) (fun a _ => a * p)
      (fun i b => ∃ m, Sm m b ∧ m + i * 121 ≤ 1 + v * 121) S1 (List.range v) 0 1 none ⟨1, Sm.one, by simp⟩ (fun x hx i b l ⟨m, hm, hi⟩ => by
        refine ⟨[some (.ref n), some (fr p), some (fr b), some (.int x), none, some (.int (flo p)), some (.int v), none], rfl, ?_, m + 120, hm.mul hp, by omega⟩
        simp [s_mc_times _ _ _ _ hm hp (by omega)])
    rw [pw_fold] at e
    exact ⟨_, e⟩
  obtain ⟨l', g1⟩ := g1
  have b1 : listD (fr p) S1 = .ok (.lst [.int p.num, .int p.den]) S1 := rfl
  have b2 : slice (fr p) none (some 1) S1 = .ok (.tup [.int p.num]) S1 := rfl
  have b3 : op2 .add (fr p) (.tup [.int 1]) S1 = .ok (.tup [.int p.num, .int p.den, .int 1]) S1 := rfl
  have b4 : op2 .mul (.int p.num) (.int 2) S1 = .ok (.int (p.num * 2)) S1 := mul_ok S1 hp.1 (show (2 : Int).natAbs < 2 ^ 2 by decide) (by decide)
  have b5 : op2 .mul (.int p.den) (.int 2) S1 = .ok (.int ((p.den : Int) * 2)) S1 := mul_ok S1 denb (show (2 : Int).natAbs < 2 ^ 2 by decide) (by decide)
  have b6 := strD_ok (show ((p.den : Int)).natAbs < 2 ^ 1900 by rw [Int.natAbs_natCast]; exact hp19.2) S1
  have iI : ∀ i : Int, R (k + 4) 8 [.int i] S1 = .ok (.bl true) S1 := fun i => s_is_integer (k + 3) i S1
  have iB := not_integer (k + 3) (.bl true) S1 true true rfl rfl rfl
  have iS := not_integer (k + 3) (.str (intText p.den)) S1 false false rfl rfl rfl
  have iT := not_integer (k + 3) (.tup [.int 1, .int 1]) S1 false false rfl rfl rfl
  have z1 := nf_no (k + 3) (.lst [.int p.num, .int p.den]) S1 rfl
  have z2 := nf_len (k + 3) [.int p.num] S1 (by simp)
  have z3 := nf_len (k + 3) [.int p.num, .int p.den, .int 1] S1 (by simp)
  have z4 := nf_int (k + 3) p.num 0 S1 (by decide) (.inl (by decide))
  have z5 := nf_int (k + 3) p.num (-(p.den : Int)) S1 (by rw [Int.natAbs_neg]; exact Nat.lt_trans denb (Nat.pow_lt_pow_right (by decide) (by decide))) (.inl (by have := p.den_pos; omega))
  have z6 := nf_int (k + 3) (p.num * 2) ((p.den : Int) * 2) S1 (by
    have h1 : ((p.den : Int) * 2).natAbs < 2 ^ 122 := by
      rw [Int.natAbs_natCast] at denb
      have : (2 : Nat) ^ 122 = 4 * 2 ^ 120 := by decide
      rw [this]
      generalize (2 : Nat) ^ 120 = z at *
      omega
    exact Nat.lt_trans h1 (Nat.pow_lt_pow_right (by decide) (by decide))) (.inr (by
      rw [Int.natAbs_mul, Int.natAbs_mul, Int.natAbs_natCast]
      show Nat.gcd (p.num.natAbs * 2) (p.den * 2) ≠ 1
      rw [Nat.gcd_mul_right]
      omega))
  have z7 := nf_no (k + 3) .non S1 rfl
  have z8 := nf_no (k + 3) (.int 0) S1 rfl
  have z9 := nf_no (k + 3) (.str [49]) S1 rfl
  have z10 := nf_pair (k + 3) (.bl true) (.int 1) S1 false true iB (iI 1) rfl
  have z11 := nf_pair (k + 3) (.int p.num) (.str (intText p.den)) S1 true false (iI _) iS rfl
  have z12 := nf_no (k + 3) .dic S1 rfl
  have z13 := nf_int (k + 3) 0 2 S1 (by decide) (.inr (by decide))
  have z14 := nf_pair (k + 3) (.int 1) (.bl true) S1 true false (iI 1) iB rfl
  have z15 := nf_pair (k + 3) (.tup [.int 1, .int 1]) (.int 1) S1 false true iT (iI 1) rfl
  have lowF := low_F p
  have nS : cmp2 .ne (.str (txtF p)) (.str (txtF p)) S = .ok false S := by rw [c_neS lowF lowF]; simp
  refine ⟨S1, ?_, hd1, hl1⟩
  rw [R, run_at at_law_one_right rfl]
  simp at e1
  have nq : ∀ (q : Rat) S, cmp2 .ne (fr q) (fr q) S = .ok false S := fun q S => c_neQ q S
  simp [F_law_one_right, startD, a1, a2, a3, a4, nS, nq, a5, e1, fits_le, m1, m2, c1, c2, fr1, rng_nat v _ (show v < 1000000 by omega), g1, a6, -c_neF, -c_gtI, -c_leI]
  rw [a7']
  have cat : ∀ (xs ys : List D), xs.length + ys.length ≤ 100 → op2 .add (.lst xs) (.lst ys) S1 = .ok (.lst (xs ++ ys)) S1 := fun xs ys h => by
    show (if fits (xs.length + ys.length) = true then Out.ok (D.lst (xs ++ ys)) S1 else .bad) = _
    rw [if_pos (fits_le (by omega))]
  simp (config := { maxSteps := 1000000 }) [nq, b1, b2, b3, b4, b5, b6, fits_le, cat, -c_neF]
  simp (config := { maxSteps := 1000000 }) [wipeD, compGo, asg, z1, z2, z3, z4, z5, z6, z7, z8, z9, z10, z11, z12, z13, z14, z15, c_eqE]
  rw [end_len hl1]
end LW
end
section
set_option Elab.async false
set_option autoImplicit false
set_option linter.all false
set_option maxRecDepth 100000
set_option maxHeartbeats 2000000
set_option exponentiation.threshold 200
namespace LW
open DL
/-! ### the simplest fraction between two -/
def cei (q : Rat) : Int := -((-q.num).fdiv q.den)
theorem cei_b (q : Rat) : q.num ≤ cei q * q.den ∧ (cei q - 1) * q.den < q.num := by
  have h0 : (0 : Int) < q.den := by have := q.den_pos; omega
  unfold cei
  rw [Int.fdiv_eq_ediv_of_nonneg _ (by omega)]
  have h1 := Int.ediv_mul_le (-q.num) (show (q.den : Int) ≠ 0 by omega)
  have h2 := Int.lt_ediv_add_one_mul_self (-q.num) h0
  generalize (-q.num) / (q.den : Int) = e at *
  rw [Int.neg_mul, Int.sub_mul, Int.neg_mul]
  rw [Int.add_mul] at h2
  omega
/-- t / b lies between both -/
def InB (a c : Rat) (t : Int) (b : Int) : Prop := a.num * b ≤ t * a.den ∧ t * c.den ≤ c.num * b
/-- the simplest one -/
def Simp (a c x : Rat) : Prop := InB a c x.num x.den ∧ 0 < x.num ∧ ∀ t b : Int, 0 < b → InB a c t b → x.num ≤ t ∧ (x.den : Int) ≤ b
theorem int_rat (w : Int) : ((w : Rat)).num = w ∧ ((w : Rat)).den = 1 := ⟨rfl, rfl⟩
theorem simp_base (a c : Rat) (ha : 0 < a.num) (h : cei a * c.den ≤ c.num) : Simp a c ((cei a : Int) : Rat) := by
  obtain ⟨h1, h2⟩ := cei_b a
  have hd : (0 : Int) < a.den := by have := a.den_pos; omega
  have hc : 0 < cei a := by
    apply Int.not_le.mp
    intro z
    have := Int.mul_le_mul_of_nonneg_right z (Int.le_of_lt hd)
    omega
  refine ⟨⟨?_, ?_⟩, hc, fun t b hb ⟨q1, q2⟩ => ?_⟩
  · show a.num * 1 ≤ cei a * a.den
    omega
  · show cei a * c.den ≤ c.num * 1
    omega
  · refine ⟨?_, ?_⟩
    · show cei a ≤ t
      have h3 : a.num * 1 ≤ a.num * b := Int.mul_le_mul_of_nonneg_left (by omega) (by omega)
      have h4 : (cei a - 1) * a.den < t * a.den := by omega
      have := Int.lt_of_mul_lt_mul_right h4 (Int.le_of_lt hd)
      omega
    · show (1 : Int) ≤ b
      omega
/-- a number without its wholes -/
theorem sub_int (c : Rat) (w : Int) : (c - (w : Rat)).num = c.num - w * c.den ∧ (c - (w : Rat)).den = c.den := by
  have hr : Nat.Coprime (c.num - w * c.den).natAbs c.den := by
    have h1 : Int.gcd (c.num - w * c.den) c.den = Int.gcd c.num c.den := by
      exact Int.gcd_sub_mul_right_left _ _ _
    have h2 : Int.gcd c.num c.den = 1 := c.reduced
    rw [h2] at h1
    exact h1
  have e : c - (w : Rat) = ⟨c.num - w * c.den, c.den, c.den_nz, hr⟩ := by
    rw [Rat.sub_def', ← Rat.mkRat_self ⟨c.num - w * c.den, c.den, c.den_nz, hr⟩]
    show mkRat (c.num * (1 : Nat) - w * c.den) (c.den * 1) = mkRat (c.num - w * c.den) c.den
    simp
  rw [e]
  exact ⟨rfl, rfl⟩
theorem quo_one (x : Rat) (h : 0 < x.num) : (quo 1 x).num = x.den ∧ ((quo 1 x).den : Int) = x.num := by
  have hr : Nat.Coprime (x.den : Int).natAbs x.num.natAbs := by
    rw [Int.natAbs_natCast]
    exact x.reduced.symm
  have e : quo 1 x = ⟨x.den, x.num.natAbs, by omega, hr⟩ := by
    unfold quo
    rw [if_pos h, ← Rat.mkRat_self ⟨x.den, x.num.natAbs, by omega, hr⟩]
    show mkRat (1 * (x.den : Int)) (1 * x.num.natAbs) = mkRat x.den x.num.natAbs
    simp
  rw [e]
  refine ⟨rfl, ?_⟩
  show ((x.num.natAbs : Nat) : Int) = x.num
  omega
/-- what is put round an inner one -/
theorem add_int (w : Int) (y : Rat) (h : 0 < y.num) : ((w : Rat) + quo 1 y).num = w * y.num + y.den ∧ (((w : Rat) + quo 1 y).den : Int) = y.num := by
  obtain ⟨q1, q2⟩ := quo_one y h
  have h1 := sub_int (quo 1 y) (-w)
  have e : quo 1 y - ((-w : Int) : Rat) = (w : Rat) + quo 1 y := by
    have : ((-w : Int) : Rat) = -(w : Rat) := by simp
    rw [this]
    grind
  rw [e] at h1
  refine ⟨?_, ?_⟩
  · rw [h1.1, q1, q2, Int.neg_mul]; omega
  · rw [h1.2, q2]
theorem simp_step (a c y : Rat) (w : Int) (hw0 : 0 ≤ w) (hA : 0 < a.num - w * a.den) (hC : 0 < c.num - w * c.den) (h : Simp (quo 1 (c - (w : Rat))) (quo 1 (a - (w : Rat))) y) : Simp a c ((w : Rat) + quo 1 y) := by
  obtain ⟨s1, s2⟩ := sub_int a w
  obtain ⟨s3, s4⟩ := sub_int c w
  obtain ⟨q1, q2⟩ := quo_one (c - (w : Rat)) (by rw [s3]; exact hC)
  obtain ⟨q3, q4⟩ := quo_one (a - (w : Rat)) (by rw [s1]; exact hA)
  rw [s4] at q1
  rw [s3] at q2
  rw [s2] at q3
  rw [s1] at q4
  obtain ⟨⟨i1, i2⟩, hy, hm⟩ := h
  obtain ⟨x1, x2⟩ := add_int w y hy
  rw [q1, q2] at i1
  rw [q3, q4] at i2
  have had : (0 : Int) < a.den := by have := a.den_pos; omega
  have hyd : (0 : Int) < y.den := by have := y.den_pos; omega
  refine ⟨⟨?_, ?_⟩, ?_, fun t b hb ⟨j1, j2⟩ => ?_⟩
  · rw [x1, x2]; grind
  · rw [x1, x2]; grind
  · rw [x1]
    have := Int.mul_nonneg hw0 (Int.le_of_lt hy)
    omega
  · have hs : 0 < t - w * b := by
      have h1 : 0 < (a.num - w * a.den) * b := Int.mul_pos hA hb
      have h2 : (a.num - w * a.den) * b ≤ (t - w * b) * a.den := by grind
      apply Int.not_le.mp
      intro z
      have := Int.mul_le_mul_of_nonneg_right z (Int.le_of_lt had)
      omega
    have hin : InB (quo 1 (c - (w : Rat))) (quo 1 (a - (w : Rat))) b (t - w * b) := by
      refine ⟨?_, ?_⟩
      · rw [q1, q2]; grind
      · rw [q3, q4]; grind
    obtain ⟨k1, k2⟩ := hm b (t - w * b) hs hin
    rw [x1, x2]
    refine ⟨?_, k1⟩
    have := Int.mul_le_mul_of_nonneg_left k1 hw0
    omega
/-! the loops -/
/-- what is put together from the inside -/
def bk (l : List Rat) (x : Rat) : Rat := l.foldl (fun x w => w + quo 1 x) x
def GoodF (N : Nat) : List Rat → Rat → Prop
  | [], _ => True
  | w :: l, x => Sm N x ∧ 0 < x.num ∧ Sm N w ∧ GoodF N l (w + quo 1 x)
theorem good_app (N : Nat) (w : Rat) : ∀ (l : List Rat) (x : Rat), GoodF N l x → Sm N (bk l x) → 0 < (bk l x).num → Sm N w → GoodF N (l ++ [w]) x
  | [], x, _, h1, h2, h3 => ⟨h1, h2, h3, trivial⟩
  | v :: l, x, h, h1, h2, h3 => ⟨h.1, h.2.1, h.2.2.1, good_app N w l _ h.2.2.2 h1 h2 h3⟩
theorem bk_app (w : Rat) (l : List Rat) (x : Rat) : bk (l ++ [w]) x = w + quo 1 (bk l x) := by
  unfold bk
  rw [List.foldl_append]; rfl
abbrev sB : List St := [.asg (.nm 3) (.call 6 [(.slot 4), (.call 35 [(.gcon 4), (.slot 3)])])]
theorem back_loop (k : Nat) (u0 u1 u2 : Option D) (S : Store) : ∀ (l : List Rat) (x : Rat) (w4 : Option D), GoodF 200 l x → ∃ w4', forGo (.nm 4) (evB (DL.run fns gcons (k + 3)) gcons sB) (l.map fr) [u0, u1, u2, some (fr x), w4] S = .nx [u0, u1, u2, some (fr (bk l x)), w4'] S
  | [], x, w4, _ => ⟨w4, rfl⟩
  | w :: l, x, w4, h => by
    obtain ⟨h1, h2, h3, h4⟩ := h
    obtain ⟨w4', e⟩ := back_loop k u0 u1 u2 S l (w + quo 1 x) (some (fr w)) h4
    refine ⟨w4', ?_⟩
    have d1 := s_divided k 1 x S Sm.one h1 (by decide) (by omega)
    have d2 := s_added k w (quo 1 x) S h3 (quo_small Sm.one h1 (by omega)) (by decide)
    rw [List.map_cons, forGo]
    simp [asg, d1, d2, e]
    rfl
abbrev sT : T := .cmp .gt (.bin .mul (.neg (.bin .fdiv (.neg (.idx (.slot 0) (.con (.int 0)))) (.idx (.slot 0) (.con (.int 1))))) (.idx (.slot 1) (.con (.int 1)))) (.idx (.slot 1) (.con (.int 0)))
abbrev sL : List St := [.asg (.nm 4) (.tup [(.bin .fdiv (.idx (.slot 0) (.con (.int 0))) (.idx (.slot 0) (.con (.int 1)))), (.con (.int 1))]),
    .app (.slot 2) (.slot 4),
    .asg (.tp [(.nm 0), (.nm 1)]) (.tup [(.call 35 [(.gcon 4), (.call 28 [(.slot 1), (.slot 4)])]), (.call 35 [(.gcon 4), (.call 28 [(.slot 0), (.slot 4)])])])]
theorem fr_int (w : Int) : D.tup [.int w, .int 1] = fr (w : Rat) := rfl
theorem cei_small {q : Rat} {N : Nat} (h : Sm N q) : (cei q).natAbs < 2 ^ N := by
  unfold cei
  rw [Int.natAbs_neg, Int.fdiv_eq_ediv_of_nonneg _ (by omega)]
  refine Nat.lt_of_le_of_lt (Int.natAbs_ediv_le_natAbs _ _) ?_
  rw [Int.natAbs_neg]; exact h.1
theorem flo_small {q : Rat} {N : Nat} (h : Sm N q) : (flo q).natAbs < 2 ^ N := by
  unfold flo
  rw [Int.fdiv_eq_ediv_of_nonneg _ (by omega)]
  exact Nat.lt_of_le_of_lt (Int.natAbs_ediv_le_natAbs _ _) h.1
theorem sm_int {w : Int} {N : Nat} (h : w.natAbs < 2 ^ N) (h1 : 1 ≤ N) : Sm N (w : Rat) := ⟨h, by
  show 1 < 2 ^ N
  exact Nat.one_lt_two_pow (by omega)⟩
/-- one turn's numbers -/
theorem turn_nums (a c : Rat) (ha : 0 < a.num) (hac : a.num * c.den ≤ c.num * a.den) (h : c.num < cei a * c.den) :
    0 ≤ flo a ∧ 0 < a.num - flo a * a.den ∧ 0 < c.num - flo a * c.den ∧ a.num - flo a * a.den < a.den ∧ c.num - flo a * c.den < c.den := by
  obtain ⟨f1, f2⟩ := flo_b a
  obtain ⟨c1, c2⟩ := cei_b a
  have hd : (0 : Int) < a.den := by have := a.den_pos; omega
  have hc : (0 : Int) < c.den := by have := c.den_pos; omega
  have h0 : 0 ≤ flo a := by
    apply Int.not_lt.mp
    intro z
    have := Int.mul_le_mul_of_nonneg_right (show flo a + 1 ≤ 0 by omega) (Int.le_of_lt hd)
    omega
  -- the wholes are one less than the next integer
  have e1 : flo a < cei a := by
    apply Int.not_le.mp
    intro z
    have q1 := Int.mul_le_mul_of_nonneg_right z (Int.le_of_lt hd)
    have q2 : a.num = cei a * a.den := by omega
    rw [q2] at hac
    have q3 : cei a * c.den * a.den ≤ c.num * a.den := by
      have : cei a * c.den * a.den = cei a * a.den * c.den := by grind
      omega
    have q4 := Int.le_of_mul_le_mul_right q3 hd
    omega
  have e2 : cei a ≤ flo a + 1 := by
    apply Int.not_lt.mp
    intro z
    have q1 := Int.mul_le_mul_of_nonneg_right (show flo a + 1 ≤ cei a - 1 by omega) (Int.le_of_lt hd)
    omega
  have e3 : cei a = flo a + 1 := by omega
  rw [e3] at c2 h
  have g1 : 0 < a.num - flo a * a.den := by
    have : flo a + 1 - 1 = flo a := by omega
    rw [this] at c2
    omega
  refine ⟨h0, g1, ?_, ?_, ?_⟩
  · have q1 : (a.num - flo a * a.den) * c.den ≤ (c.num - flo a * c.den) * a.den := by grind
    have q2 := Int.mul_pos g1 hc
    apply Int.not_le.mp
    intro z
    have := Int.mul_le_mul_of_nonneg_right z (Int.le_of_lt hd)
    omega
  · rw [Int.add_mul] at f2; omega
  · rw [Int.add_mul] at h; omega
theorem x_app {cl : Cl} {gc : List D} {σ : Env} {S : Store} (o e : E) : evS cl gc (.app o e) σ S = (evE cl gc o σ S).stm σ fun x S => if isRef x then (evE cl gc e σ S).stm σ fun v S => match appIt x v S with | some S2 => .nx σ S2 | none => .bad else .bad := by rw [evS] <;> rfl
theorem app_new (S : Store) (xs : List D) (v : D) (h : xs.length < 1000000) : appIt (.ref S.length) v (S ++ [xs]) = some (S ++ [xs ++ [v]]) := by
  have h1 : (S ++ [xs])[S.length]? = some xs := by simp
  have h2 : Nat.ble (xs.length + 1) bigN = true := Nat.ble_eq_true_of_le (by simp [bigN]; omega)
  simp only [appIt, h1, Option.bind, h2, if_true]
  simp
theorem sf_loop (k : Nat) (S : Store) : ∀ (m : Nat) (a c : Rat) (ws : List Rat) (w4 : Option D) (f : Nat), 0 < a.num → a.num * c.den ≤ c.num * a.den → Sm 100 a → Sm 100 c → a.den + c.den ≤ m → m + 1 ≤ f → ws.length + m < 1000000 →
    ∃ (a' c' : Rat) (vs : List Rat) (w4' : Option D), whGo (evT (DL.run fns gcons (k + 4)) gcons sT) (evB (DL.run fns gcons (k + 4)) gcons sL) f [some (fr a), some (fr c), some (.ref S.length), none, w4] (S ++ [ws.map fr]) =
      .nx [some (fr a'), some (fr c'), some (.ref S.length), none, w4'] (S ++ [(ws ++ vs).map fr]) ∧ GoodF 200 vs.reverse ((cei a' : Int) : Rat) ∧ Sm 100 a' ∧ Simp a c (bk vs.reverse ((cei a' : Int) : Rat))
  | 0, a, c, ws, w4, f, _, _, _, _, hm, _, _ => by have := a.den_pos; omega
  | m + 1, a, c, ws, w4, f, ha, hac, sa, sc, hm, hf, hl => by
    obtain ⟨f, rfl⟩ : ∃ g, f = g + 1 := ⟨f - 1, by omega⟩
    have hcd : ((c.den : Int)).natAbs < 2 ^ 100 := by rw [Int.natAbs_natCast]; exact sc.2
    have had : a.den < 2 ^ 8999 := Nat.lt_trans sa.2 (Nat.pow_lt_pow_right (by decide) (by decide))
    have t1 : ∀ S, op2 .fdiv (.int (-a.num)) (.int a.den) S = .ok (.int ((-a.num).fdiv a.den)) S := fun S => div_ok S a.den_nz had
    have t2 : ∀ S, op2 .mul (.int (-((-a.num).fdiv a.den))) (.int c.den) S = .ok (.int (cei a * c.den)) S := fun S => mul_ok S (cei_small sa) hcd (by decide)
    have et : evT (DL.run fns gcons (k + 4)) gcons sT [some (fr a), some (fr c), some (.ref S.length), none, w4] (S ++ [ws.map fr]) = .ok (decide (c.num < cei a * c.den)) (S ++ [ws.map fr]) := by
      simp [t1, t2]
    rw [whGo, et]
    by_cases h : c.num < cei a * c.den
    · obtain ⟨n0, n1, n2, n3, n4⟩ := turn_nums a c ha hac h
      obtain ⟨s1, s2⟩ := sub_int a (flo a)
      obtain ⟨s3, s4⟩ := sub_int c (flo a)
      obtain ⟨q1, q2⟩ := quo_one (c - (flo a : Rat)) (by rw [s3]; exact n2)
      obtain ⟨q3, q4⟩ := quo_one (a - (flo a : Rat)) (by rw [s1]; exact n1)
      rw [s4] at q1
      rw [s3] at q2
      rw [s2] at q3
      rw [s1] at q4
      have sw : Sm 100 ((flo a : Int) : Rat) := sm_int (flo_small sa) (by decide)
      have b1 := s_less k c (flo a : Rat) (S ++ [ws.map fr ++ [fr (flo a : Rat)]]) sc sw (by decide)
      have b2 := s_less k a (flo a : Rat) (S ++ [ws.map fr ++ [fr (flo a : Rat)]]) sa sw (by decide)
      have z1 : Sm 201 (c - (flo a : Rat)) := by rw [Rat.sub_eq_add_neg]; exact sc.add sw.neg
      have z2 : Sm 201 (a - (flo a : Rat)) := by rw [Rat.sub_eq_add_neg]; exact sa.add sw.neg
      have b3 := s_divided (k + 1) 1 (c - (flo a : Rat)) (S ++ [ws.map fr ++ [fr (flo a : Rat)]]) Sm.one z1 (by decide) (by rw [s3]; omega)
      have b4 := s_divided (k + 1) 1 (a - (flo a : Rat)) (S ++ [ws.map fr ++ [fr (flo a : Rat)]]) Sm.one z2 (by decide) (by rw [s1]; omega)
      have t3 : ∀ S, op2 .fdiv (.int a.num) (.int a.den) S = .ok (.int (flo a)) S := fun S => div_ok S a.den_nz had
      have eb : evB (DL.run fns gcons (k + 4)) gcons sL [some (fr a), some (fr c), some (.ref S.length), none, w4] (S ++ [ws.map fr]) =
          .nx [some (fr (quo 1 (c - (flo a : Rat)))), some (fr (quo 1 (a - (flo a : Rat)))), some (.ref S.length), none, some (fr (flo a : Rat))] (S ++ [(ws ++ [(flo a : Rat)]).map fr]) := by
        have ap := app_new S (ws.map fr) (fr (flo a : Rat)) (by simp; omega)
        simp [t3, fits_le, fr_int, x_app, isRef, ap, b1, b2, b3, b4]
      simp only [x_stm, decide_eq_true h]
      rw [eb]
      simp only []
      have sa' : Sm 100 (quo 1 (c - (flo a : Rat))) := ⟨by rw [q1, Int.natAbs_natCast]; exact sc.2, by have := sc.2; omega⟩
      have sc' : Sm 100 (quo 1 (a - (flo a : Rat))) := ⟨by rw [q3, Int.natAbs_natCast]; exact sa.2, by have := sa.2; omega⟩
      obtain ⟨a', c', vs, w4', e, g1, g2, g3⟩ := sf_loop k S m (quo 1 (c - (flo a : Rat))) (quo 1 (a - (flo a : Rat))) (ws ++ [(flo a : Rat)]) (some (fr (flo a : Rat))) f (by rw [q1]; have := c.den_pos; omega)
        (by rw [q1, q2, q3, q4]; grind) sa' sc' (by omega) (by omega) (by simp; omega)
      refine ⟨a', c', (flo a : Rat) :: vs, w4', ?_, ?_, g2, ?_⟩
      · rw [e]
        simp
      · rw [List.reverse_cons]
        have sz : Sm 200 (bk vs.reverse ((cei a' : Int) : Rat)) := by
          obtain ⟨gi, gp, gm⟩ := g3
          obtain ⟨m1, m2⟩ := gm (quo 1 (c - (flo a : Rat))).num (quo 1 (c - (flo a : Rat))).den (by have := (quo 1 (c - (flo a : Rat))).den_pos; omega) ⟨by grind, by
            rw [q1, q2, q3, q4]; grind⟩
          refine Sm.mono (m := 100) ⟨?_, ?_⟩ (by decide)
          · have := sa'.1; omega
          · have := sa'.2; omega
        exact good_app 200 _ _ _ g1 sz g3.2.1 (sw.mono (by decide))
      · rw [List.reverse_cons, bk_app]
        exact simp_step a c _ (flo a) n0 n1 n2 g3
    · refine ⟨a, c, [], w4, ?_, trivial, sa, simp_base a c ha (by omega)⟩
      simp only [x_stm, decide_eq_false h]
      simp
end LW
end
section
set_option Elab.async false
set_option autoImplicit false
set_option linter.all false
set_option maxRecDepth 100000
set_option maxHeartbeats 2000000
set_option exponentiation.threshold 200
namespace LW
open DL
theorem refs_fr (n : Nat) : ∀ ws : List Rat, refsBelows n (ws.map fr) = true
  | [] => by simp [refsBelows]
  | w :: ws => by
    have := refs_fr n ws
    simp [refsBelows, this, fr, refsBelow]
theorem s_simplest_from (k : Nat) (a c : Rat) (S : Store) (ok : OkS S) (ha : 0 < a.num) (hac : a.num * c.den ≤ c.num * a.den) (sa : Sm 100 a) (sc : Sm 100 c) (hm : a.den + c.den ≤ 400000) : ∃ x, R (k + 5) 55 [fr a, fr c] S = .ok (fr x) S ∧ Simp a c x := by
  obtain ⟨a', c', vs, w4', e, g1, g2, g3⟩ := sf_loop k S 400000 a c [] none turns ha hac sa sc hm (by decide) (by decide)
  obtain ⟨w4'', e2⟩ := back_loop (k + 1) (some (fr a')) (some (fr c')) (some (.ref S.length)) (S ++ [vs.map fr]) vs.reverse ((cei a' : Int) : Rat) w4' g1
  refine ⟨_, ?_, g3⟩
  have t1 : ∀ S, op2 .fdiv (.int (-a'.num)) (.int a'.den) S = .ok (.int ((-a'.num).fdiv a'.den)) S := fun S => div_ok S a'.den_nz (Nat.lt_trans g2.2 (Nat.pow_lt_pow_right (by decide) (by decide)))
  have rv : revd (.ref S.length) (S ++ [vs.map fr]) = .ok (.lst (vs.reverse.map fr)) (S ++ [vs.map fr]) := by
    simp [revd, lOf]
  have e' : whGo (evT (DL.run fns gcons (k + 4)) gcons sT) (evB (DL.run fns gcons (k + 4)) gcons sL) turns [some (fr a), some (fr c), some (.ref S.length), none, none] (S ++ [[]]) = .nx [some (fr a'), some (fr c'), some (.ref S.length), none, w4'] (S ++ [vs.map fr]) := e
  have ec : D.tup [.int (-((-a'.num).fdiv a'.den)), .int 1] = fr ((cei a' : Int) : Rat) := rfl
  rw [R, run_at at_simplest_from rfl]
  rw [F_simplest_from]
  simp only [startD]
  have e0 : (List.map some [fr a, fr c] ++ List.replicate (5 - [fr a, fr c].length) none : Env) = [some (fr a), some (fr c), none, none, none] := rfl
  rw [e0]
  simp only [x_b1, x_asg, x_new, x_es0, x_bind, List.length_nil, fits_le (Nat.zero_le _), if_true, x_stm, x_gnm, x_then, List.set, x_wh, e']
  simp only [x_tup, x_es, x_neg, x_bin, x_idx, x_slot, x_con, x_bind, List.getElem?_cons_zero, i_fr0, i_fr1, t1]
  simp [t1, fits_le, ec, rv, -List.map_reverse]
  have e2' : forGo (.nm 4) (evB (DL.run fns gcons (k + 4)) gcons sB) (vs.reverse.map fr) [some (fr a'), some (fr c'), some (.ref S.length), some (fr ((cei a' : Int) : Rat)), w4'] (S ++ [vs.map fr]) = _ := e2
  rw [e2']
  simp
  show Out.ok _ (trim S.length _ (S ++ [vs.map fr])) = _
  rw [trim_new ok _ (by simp [fr, refsBelow, refsBelows])]
/-- the best one -/
def Best (a c x : Rat) : Prop := InB a c x.num x.den ∧ ∀ t b : Int, 0 < b → InB a c t b → (x.den : Int) ≤ b ∧ x.num.natAbs ≤ t.natAbs ∧ (x.num < 0 → t < 0) ∧ (0 ≤ x.num → x.num ≤ t ∨ x.num = 0)
theorem s_simplest_between (k : Nat) (a c : Rat) (S : Store) (ok : OkS S) (hac : a.num * c.den ≤ c.num * a.den) (sa : Sm 100 a) (sc : Sm 100 c) (hm : a.den + c.den ≤ 400000) : ∃ x, R (k + 6) 56 [fr a, fr c] S = .ok (fr x) S ∧ Best a c x := by
  have f1 := s_require_both (k + 1) a c S (sa.mono (by decide)) (sc.mono (by decide))
  have f2 := s_is_less_by (k + 4) c a S sc sa (by decide)
  have hle : ¬ c < a := fun z => by
    have := (Rat.lt_iff c a).mp z
    omega
  rw [decide_eq_false hle] at f2
  have had : (0 : Int) < a.den := by have := a.den_pos; omega
  have hcd : (0 : Int) < c.den := by have := c.den_pos; omega
  by_cases h0 : a.num ≤ 0 ∧ 0 ≤ c.num
  · refine ⟨0, ?_, ⟨by show a.num * 1 ≤ 0 * _; omega, by show 0 * (c.den : Int) ≤ c.num * 1; omega⟩, fun t b hb _ => ⟨by show (1 : Int) ≤ b; omega, by show 0 ≤ t.natAbs; omega, fun z => absurd z (by decide), fun _ => .inr rfl⟩⟩
    rw [R, run_at at_simplest_between rfl]
    simp [F_simplest_between, startD, f1, f2, h0.1, h0.2]
  by_cases h1 : 0 < a.num
  · obtain ⟨x, e, hx⟩ := s_simplest_from k a c S ok h1 hac sa sc hm
    refine ⟨x, ?_, hx.1, fun t b hb ht => ?_⟩
    · have n0 : ¬ a.num ≤ 0 := by omega
      rw [R, run_at at_simplest_between rfl]
      simp [F_simplest_between, startD, f1, f2, n0, h1, e]
    · obtain ⟨m1, m2⟩ := hx.2.2 t b hb ht
      have := hx.2.1
      exact ⟨m2, by omega, fun z => by omega, fun _ => .inl m1⟩
  · have h2 : c.num < 0 := by omega
    have hn : (-c).num = -c.num ∧ (-c).den = c.den := ⟨Rat.neg_num c, rfl⟩
    have hn2 : (-a).num = -a.num ∧ (-a).den = a.den := ⟨Rat.neg_num a, rfl⟩
    obtain ⟨y, e, hy⟩ := s_simplest_from k (-c) (-a) S ok (by rw [hn.1]; omega) (by rw [hn.1, hn.2, hn2.1, hn2.2, Int.neg_mul, Int.neg_mul]; omega) sc.neg sa.neg (by rw [hn.2, hn2.2]; omega)
    have g1 := s_opposite (k + 4) c S
    have g2 := s_opposite (k + 4) a S
    have g3 := s_opposite (k + 4) y S
    obtain ⟨⟨i1, i2⟩, hy0, hmin⟩ := hy
    rw [hn.1, hn.2] at i1
    rw [hn2.1, hn2.2] at i2
    have hyn : (-y).num = -y.num ∧ (-y).den = y.den := ⟨Rat.neg_num y, rfl⟩
    refine ⟨-y, ?_, ⟨?_, ?_⟩, fun t b hb ⟨j1, j2⟩ => ?_⟩
    · have n0 : ¬ (0 ≤ c.num) := by omega
      by_cases ha : a.num ≤ 0
      · rw [R, run_at at_simplest_between rfl]
        simp [F_simplest_between, startD, f1, f2, ha, n0, h1, e, g1, g2, g3]
      · omega
    · rw [hyn.1, hyn.2]; grind
    · rw [hyn.1, hyn.2]; grind
    · obtain ⟨m1, m2⟩ := hmin (-t) b hb ⟨by rw [hn.1, hn.2]; grind, by rw [hn2.1, hn2.2]; grind⟩
      rw [hyn.1, hyn.2]
      refine ⟨m2, by omega, fun _ => by omega, fun z => by omega⟩
end LW
end
section
set_option Elab.async false
set_option autoImplicit false
set_option linter.all false
set_option maxRecDepth 100000
set_option maxHeartbeats 2000000
set_option exponentiation.threshold 200
namespace LW
open DL
theorem range_off : ∀ (n : Nat) (lo : Int), rangeD lo 1 n = ((List.range n).map fun i : Nat => lo + i).map D.int
  | 0, lo => rfl
  | n + 1, lo => by
    have e := range_off n (lo + 1)
    rw [rangeD, e, List.range_succ_eq_map]
    simp [List.map_map, Function.comp_def]
    intro i hi
    omega
/-- the tops that are gone through -/
def tops0 (b : Nat) : List Int := (List.range (26 * b + 1)).map fun i : Nat => -(13 * (b : Int)) + i
def p1 (a : Rat) (b : Nat) (t : Int) : Bool := decide (a.num * b ≤ t * a.den)
def p2 (c : Rat) (b : Nat) (t : Int) : Bool := decide (t * c.den ≤ c.num * b)
def tops (a c : Rat) (b : Nat) : List Int := ((tops0 b).filter (p1 a b)).filter (p2 c b)
theorem mem_tops {a c : Rat} {b : Nat} {t : Int} : t ∈ tops a c b ↔ (-(13 * (b : Int)) ≤ t ∧ t ≤ 13 * b) ∧ InB a c t b := by
  unfold tops p1 p2 InB tops0
  simp only [List.mem_filter, List.mem_map, List.mem_range, decide_eq_true_eq]
  constructor
  · rintro ⟨⟨⟨i, hi, rfl⟩, h1⟩, h2⟩
    exact ⟨by omega, h1, h2⟩
  · rintro ⟨h, h1, h2⟩
    exact ⟨⟨⟨(t + 13 * b).toNat, by omega, by omega⟩, h1⟩, h2⟩
theorem rng_tops (b : Nat) (hb : b ≤ 60) (S : Store) : rng2 (.int (-13 * (b : Int))) (.int (13 * (b : Int) + 1)) S = .ok ((tops0 b).map D.int) S := by
  have h1 : (small62 (-13 * (b : Int)) && small62 (13 * (b : Int) + 1)) = true := by
    rw [Bool.and_eq_true]
    unfold small62
    rw [Bool.and_eq_true, Bool.and_eq_true]
    exact ⟨⟨decide_eq_true (by omega), decide_eq_true (by omega)⟩, ⟨decide_eq_true (by omega), decide_eq_true (by omega)⟩⟩
  show (if (small62 (-13 * (b : Int)) && small62 (13 * (b : Int) + 1)) = true then (Out.ok (rangeD (-13 * (b : Int)) 1 ((13 * (b : Int) + 1) - (-13 * (b : Int))).toNat) S : Out (List D)) else .bad) = _
  rw [if_pos h1, range_off]
  have e : ((13 * (b : Int) + 1) - (-13 * (b : Int))).toNat = 26 * b + 1 := by omega
  have e2 : (-13 * (b : Int)) = -(13 * (b : Int)) := by omega
  rw [e, e2]; rfl
theorem s_at_most_l (k : Nat) (a : Rat) (t : Int) (b : Nat) (S : Store) (ha : Sm 100 a) (ht : t.natAbs < 2 ^ 20) (hb : b < 2 ^ 20) : R (k + 1) 54 [fr a, .tup [.int t, .int b]] S = .ok (.bl (p1 a b t)) S := by
  have m1 : op2 .mul (.int a.num) (.int b) S = .ok (.int (a.num * b)) S := mul_ok S ha.1 (show ((b : Int)).natAbs < 2 ^ 20 by rw [Int.natAbs_natCast]; exact hb) (by decide)
  have m2 : op2 .mul (.int t) (.int a.den) S = .ok (.int (t * a.den)) S := mul_ok S ht (show ((a.den : Int)).natAbs < 2 ^ 100 by rw [Int.natAbs_natCast]; exact ha.2) (by decide)
  have i0 : item (.tup [.int t, .int b]) (.int 0) S = .ok (.int t) S := rfl
  have i1 : item (.tup [.int t, .int b]) (.int 1) S = .ok (.int b) S := rfl
  rw [R, run_at at_law_mc_at_most rfl]
  simp [F_law_mc_at_most, startD, i0, i1, m1, m2, p1]
theorem s_at_most_r (k : Nat) (c : Rat) (t : Int) (b : Nat) (S : Store) (hc : Sm 100 c) (ht : t.natAbs < 2 ^ 20) (hb : b < 2 ^ 20) : R (k + 1) 54 [.tup [.int t, .int b], fr c] S = .ok (.bl (p2 c b t)) S := by
  have m1 : op2 .mul (.int c.num) (.int b) S = .ok (.int (c.num * b)) S := mul_ok S hc.1 (show ((b : Int)).natAbs < 2 ^ 20 by rw [Int.natAbs_natCast]; exact hb) (by decide)
  have m2 : op2 .mul (.int t) (.int c.den) S = .ok (.int (t * c.den)) S := mul_ok S ht (show ((c.den : Int)).natAbs < 2 ^ 100 by rw [Int.natAbs_natCast]; exact hc.2) (by decide)
  have i0 : item (.tup [.int t, .int b]) (.int 0) S = .ok (.int t) S := rfl
  have i1 : item (.tup [.int t, .int b]) (.int 1) S = .ok (.int b) S := rfl
  rw [R, run_at at_law_mc_at_most rfl]
  simp [F_law_mc_at_most, startD, i0, i1, m1, m2, p2]
theorem plains_int (n : Nat) : ∀ xs : List Int, plains n (xs.map D.int) = true
  | [] => by simp [plains]
  | x :: xs => by have := plains_int n xs; simp [plains, plain, this]
theorem ne_nil (xs : List Int) (S : Store) : cmp2 .ne (.lst (xs.map D.int)) (.lst []) S = .ok (!decide (xs = [])) S := by
  rw [c_ne rfl rfl (by rw [plain]; exact plains_int 59 xs) (by simp [plain, plains])]
  cases xs with
  | nil => simp [eqv, eqvs]
  | cons x xs => simp [eqv, eqvs]
theorem in_list (s : Int) (xs : List Int) (S : Store) : cmp2 .inn (.int s) (.lst (xs.map D.int)) S = .ok (decide (s ∈ xs)) S := by
  have h1 : (xs.map D.int).all isFlat = true := by simp [isFlat]
  have h2 : elemD (.int s) (xs.map D.int) = decide (s ∈ xs) := by
    induction xs with
    | nil => simp [elemD]
    | cons x xs ih =>
      have := ih (by simp [isFlat])
      rw [List.map_cons, elemD, this]
      by_cases hx : x = s
      · subst hx; simp [eqv]
      · have hx' : ¬ s = x := fun z => hx z.symm
        simp [eqv, hx, hx']
  show ofOpt (if isFlat (.int s) && (xs.map D.int).all isFlat then some (elemD (.int s) (xs.map D.int)) else none) S = _
  rw [h1, h2]
  rfl
theorem ints_map (f : Int → Int) : ∀ xs : List Int, intsOf (xs.map fun t => D.int (f t)) = some (xs.map f)
  | [] => rfl
  | x :: xs => by rw [List.map_cons, intsOf, ints_map f xs]; rfl
theorem least_le : ∀ (m : Int) (is : List Int), leastI m is ≤ m ∧ (∀ i ∈ is, leastI m is ≤ i) ∧ (leastI m is = m ∨ leastI m is ∈ is)
  | m, [] => by simp [leastI]
  | m, i :: is => by
    obtain ⟨h1, h2, h3⟩ := least_le (if i < m then i else m) is
    unfold leastI
    by_cases hm : i < m
    · rw [if_pos hm] at h1 h2 h3 ⊢
      refine ⟨by omega, fun j hj => ?_, ?_⟩
      · rcases List.mem_cons.mp hj with rfl | hj
        · exact h1
        · exact h2 j hj
      · rcases h3 with h3 | h3
        · exact .inr (by rw [h3]; exact List.mem_cons_self)
        · exact .inr (List.mem_cons_of_mem _ h3)
    · rw [if_neg hm] at h1 h2 h3 ⊢
      refine ⟨h1, fun j hj => ?_, ?_⟩
      · rcases List.mem_cons.mp hj with rfl | hj
        · omega
        · exact h2 j hj
      · rcases h3 with h3 | h3
        · exact .inl h3
        · exact .inr (List.mem_cons_of_mem _ h3)
/-- the least size of what is there -/
theorem min_abs (xs : List Int) (S : Store) (h : xs ≠ []) : ∃ s : Int, minlD (.lst (xs.map fun t => D.int (if t < 0 then -t else t))) S = .ok (.int s) S ∧ (∀ t ∈ xs, s ≤ t.natAbs) ∧ ∃ t ∈ xs, s = t.natAbs := by
  cases xs with
  | nil => exact absurd rfl h
  | cons x xs =>
    obtain ⟨h1, h2, h3⟩ := least_le (if x < 0 then -x else x) (xs.map fun t => if t < 0 then -t else t)
    refine ⟨leastI (if x < 0 then -x else x) (xs.map fun t => if t < 0 then -t else t), ?_, ?_, ?_⟩
    · have := ints_map (fun t => if t < 0 then -t else t) (x :: xs)
      simp only [minlD, lOf, Option.bind, this]
      rfl
    · intro t ht
      have ab : (if t < 0 then -t else t) = (t.natAbs : Int) := by split <;> omega
      rcases List.mem_cons.mp ht with rfl | ht
      · omega
      · have := h2 _ (List.mem_map_of_mem (f := fun t : Int => if t < 0 then -t else t) ht)
        omega
    · rcases h3 with h3 | h3
      · exact ⟨x, List.mem_cons_self, by rw [h3]; split <;> omega⟩
      · obtain ⟨t, ht, e⟩ := List.mem_map.mp h3
        refine ⟨t, List.mem_cons_of_mem _ ht, ?_⟩
        rw [← e]
        split <;> omega
abbrev wB : List St := [.asg (.nm 4) (.comp (.nm 7) (.rng2 (.bin .mul (.neg (.con (.int 13))) (.slot 1)) (.bin .add (.bin .mul (.con (.int 13)) (.slot 1)) (.con (.int 1)))) (.some (.val (.call 54 [(.slot 2), (.tup [(.slot 7), (.slot 1)])]))) (.slot 7) [7]),
    .asg (.nm 4) (.comp (.nm 7) (.seq (.slot 4)) (.some (.val (.call 54 [(.tup [(.slot 7), (.slot 1)]), (.slot 3)]))) (.slot 7) [7]),
    .ite (.cmp .ne (.slot 4) (.lst [])) [.asg (.nm 5) (.bi .minl [(.comp (.nm 7) (.seq (.slot 4)) .none (.bi .abs [(.slot 7)]) [7])]),
    .asg (.nm 6) (.ite (.cmp .inn (.slot 5) (.slot 4)) (.tup [(.slot 5), (.slot 1)]) (.tup [(.neg (.slot 5)), (.slot 1)])),
    .ret (.and (.cmp .eq (.call 56 [(.slot 2), (.slot 3)]) (.slot 6)) (.cmp .is (.call 9 [(.slot 6)]) (.con (.bl true))))] []]
theorem bi_minl (d : D) (S : Store) : bi .minl [d] S = minlD d S := Eq.trans rfl rfl
theorem tops_small {b : Nat} (hb : b ≤ 60) {t : Int} (h : t ∈ tops0 b) : t.natAbs < 2 ^ 20 := by
  unfold tops0 at h
  simp only [List.mem_map, List.mem_range] at h
  obtain ⟨i, hi, rfl⟩ := h
  omega
theorem len_filter2 (a c : Rat) (b : Nat) : (tops a c b).length ≤ 26 * b + 1 := by
  unfold tops
  refine Nat.le_trans (List.length_filter_le _ _) (Nat.le_trans (List.length_filter_le _ _) ?_)
  simp [tops0]
theorem s_below (k : Nat) (a c : Rat) (b : Nat) (hb : b ≤ 60) (S : Store) (ha : Sm 100 a) (hc : Sm 100 c) (u0 u4 u5 u6 u7 : Option D) :
    (tops a c b = [] → evB (DL.run fns gcons (k + 7)) gcons wB [u0, some (.int b), some (fr a), some (fr c), u4, u5, u6, u7] S = .nx [u0, some (.int b), some (fr a), some (fr c), some (.lst []), u5, u6, u7] S) ∧
    (∀ x : Rat, tops a c b ≠ [] → b = x.den → DL.run fns gcons (k + 7) 56 [fr a, fr c] S = .ok (fr x) S → Sm 16000 x → x.num ∈ tops a c b → (∀ t ∈ tops a c b, x.num.natAbs ≤ t.natAbs ∧ (x.num < 0 → t < 0) ∧ (0 ≤ x.num → x.num ≤ t ∨ x.num = 0)) →
      evB (DL.run fns gcons (k + 7)) gcons wB [u0, some (.int b), some (fr a), some (fr c), u4, u5, u6, u7] S = .ret (.bl true) S) := by
  have m1 : op2 .mul (.int (-13)) (.int b) S = .ok (.int (-13 * (b : Int))) S := mul_ok (m := 10) (n := 10) S (by decide) (by omega) (by decide)
  have m2 : op2 .mul (.int 13) (.int b) S = .ok (.int (13 * (b : Int))) S := mul_ok (m := 10) (n := 10) S (by decide) (by omega) (by decide)
  have c1 : ∀ (σ : Env), σ.length = 8 → σ[1]? = some (some (.int b)) → σ[2]? = some (some (fr a)) → compGo (.nm 7) (evC (DL.run fns gcons (k + 7)) gcons (some (.val (.call 54 [(.slot 2), (.tup [(.slot 7), (.slot 1)])])))) (evE (DL.run fns gcons (k + 7)) gcons (.slot 7)) σ ((tops0 b).map D.int) [] S = .ok (.lst (((tops0 b).filter (p1 a b)).map D.int)) S := fun σ hl h1 h2 => by
    rw [comp_if D.int D.int (fun t => σ.set 7 (some (.int t))) (p1 a b) S (tops0 b) []]
    · simp
    · intro t ht
      have z1 : (σ.set 7 (some (D.int t)))[1]? = some (some (.int b)) := by rw [List.getElem?_set_ne (by decide)]; exact h1
      have z2 : (σ.set 7 (some (D.int t)))[2]? = some (some (fr a)) := by rw [List.getElem?_set_ne (by decide)]; exact h2
      have z7 : (σ.set 7 (some (D.int t)))[7]? = some (some (.int t)) := by rw [List.getElem?_set_self (by omega)]
      refine ⟨rfl, ?_, ?_⟩
      · simp only [x_c1, x_tval, x_call, x_es1, x_es4, x_es0, x_slot, x_tup, z1, z2, z7, x_bind, List.length_cons, List.length_nil, fits_le, Nat.zero_add, Nat.reduceLeDiff, if_true]
        simp [s_at_most_l (k + 6) a t b S ha (tops_small hb ht) (by omega), fits_le]
      · simp [z7]
    · simp [bigN, tops0]; omega
  have c2 : ∀ (σ : Env), σ.length = 8 → σ[1]? = some (some (.int b)) → σ[3]? = some (some (fr c)) → compGo (.nm 7) (evC (DL.run fns gcons (k + 7)) gcons (some (.val (.call 54 [(.tup [(.slot 7), (.slot 1)]), (.slot 3)])))) (evE (DL.run fns gcons (k + 7)) gcons (.slot 7)) σ (((tops0 b).filter (p1 a b)).map D.int) [] S = .ok (.lst ((tops a c b).map D.int)) S := fun σ hl h1 h3 => by
    rw [comp_if D.int D.int (fun t => σ.set 7 (some (.int t))) (p2 c b) S ((tops0 b).filter (p1 a b)) []]
    · simp [tops]
    · intro t ht
      have ht := (List.mem_filter.mp ht).1
      have z1 : (σ.set 7 (some (D.int t)))[1]? = some (some (.int b)) := by rw [List.getElem?_set_ne (by decide)]; exact h1
      have z3 : (σ.set 7 (some (D.int t)))[3]? = some (some (fr c)) := by rw [List.getElem?_set_ne (by decide)]; exact h3
      have z7 : (σ.set 7 (some (D.int t)))[7]? = some (some (.int t)) := by rw [List.getElem?_set_self (by omega)]
      refine ⟨rfl, ?_, ?_⟩
      · simp only [x_c1, x_tval, x_call, x_es1, x_es4, x_es0, x_slot, x_tup, z1, z3, z7, x_bind, List.length_cons, List.length_nil, fits_le, Nat.zero_add, Nat.reduceLeDiff, if_true]
        simp [s_at_most_r (k + 6) c t b S hc (tops_small hb ht) (by omega), fits_le]
      · simp [z7]
    · have := List.length_filter_le (p1 a b) (tops0 b)
      simp [bigN, tops0] at this ⊢
      omega
  refine ⟨fun h => ?_, fun x h hx hs hsm hmem hall => ?_⟩
  · have n0 := ne_nil (tops a c b) S
    rw [decide_eq_true h, h] at n0
    rw [h] at c2
    simp at n0 c2
    simp [m1, m2, rng_tops b hb S, wipeD, c1, c2, n0, fits_le]
  · have n0 := ne_nil (tops a c b) S
    rw [decide_eq_false h] at n0
    obtain ⟨s, e1, e2, t0, ht0, e3⟩ := min_abs (tops a c b) S h
    have es : s = x.num.natAbs := by
      have q1 := e2 _ hmem
      have q2 := (hall t0 ht0).1
      omega
    have cA : ∀ (σ : Env), σ.length = 8 → compGo (.nm 7) (evC (DL.run fns gcons (k + 7)) gcons none) (evE (DL.run fns gcons (k + 7)) gcons (.bi .abs [(.slot 7)])) σ ((tops a c b).map D.int) [] S = .ok (.lst ((tops a c b).map fun t => D.int (if t < 0 then -t else t))) S := fun σ hl => by
      rw [comp_of D.int (fun t => D.int (if t < 0 then -t else t)) (fun t => σ.set 7 (some (.int t))) (fun _ _ => x_c0) S (tops a c b) []]
      · simp
      · intro t ht
        refine ⟨rfl, ?_⟩
        have z7 : (σ.set 7 (some (D.int t)))[7]? = some (some (.int t)) := by rw [List.getElem?_set_self (by omega)]
        simp [z7, absD]
      · have := len_filter2 a c b
        simp [bigN]; omega
    have iL := in_list s (tops a c b) S
    have isf := s_is_fraction (k + 5) x S hsm
    have hfr : D.tup [.int x.num, .int b] = fr x := by rw [hx]; rfl
    have eqx := c_eqQ x S
    by_cases hn : x.num < 0
    · have nin : ¬ s ∈ tops a c b := fun z => by
        have := (hall s z).2.1 hn
        omega
      rw [decide_eq_false nin] at iL
      have en : -s = x.num := by omega
      simp [m1, m2, rng_tops b hb S, wipeD, c1, c2, n0, cA, bi_minl, e1, iL, en, fits_le, hfr, hs, eqx, isf, -c_eqF]
    · have en : s = x.num := by omega
      rw [decide_eq_true (by rw [en]; exact hmem)] at iL
      rw [en] at iL e1
      simp [m1, m2, rng_tops b hb S, wipeD, c1, c2, n0, cA, bi_minl, e1, iL, fits_le, hfr, hs, eqx, isf, -c_eqF]
theorem simple_loop (k : Nat) (a c x : Rat) (S : Store) (ha : Sm 100 a) (hc : Sm 100 c) (hs : DL.run fns gcons (k + 7) 56 [fr a, fr c] S = .ok (fr x) S) (hx : Best a c x) (hsm : Sm 16000 x) (hr : -(13 * (x.den : Int)) ≤ x.num ∧ x.num ≤ 13 * x.den) (hd : x.den ≤ 59) (u0 : Option D) :
    ∀ (n b : Nat) (u1 u4 u5 u6 u7 : Option D), 1 ≤ b → b ≤ x.den → x.den < b + n → forGo (.nm 1) (evB (DL.run fns gcons (k + 7)) gcons wB) ((List.range' b n).map fun i : Nat => D.int i) [u0, u1, some (fr a), some (fr c), u4, u5, u6, u7] S = .ret (.bl true) S
  | 0, b, u1, u4, u5, u6, u7, h1, h2, h3 => by omega
  | n + 1, b, u1, u4, u5, u6, u7, h1, h2, h3 => by
    obtain ⟨g1, g2⟩ := s_below k a c b (by omega) S ha hc u0 u4 u5 u6 u7
    have bb : (0 : Int) < b := by omega
    rw [List.range'_succ, List.map_cons, forGo]
    by_cases hb : b = x.den
    · have hmem : x.num ∈ tops a c b := mem_tops.mpr ⟨by rw [hb]; exact hr, by rw [hb]; exact hx.1⟩
      have := g2 x (List.ne_nil_of_mem hmem) hb hs hsm hmem fun t ht => (hx.2 t b bb (mem_tops.mp ht).2).2
      simp only [asg, List.set]
      rw [this]
    · have hn : tops a c b = [] := by
        apply List.eq_nil_iff_forall_not_mem.mpr
        intro t ht
        have := (hx.2 t b bb (mem_tops.mp ht).2).1
        omega
      have := g1 hn
      simp only [asg, List.set]
      rw [this]
      exact simple_loop k a c x S ha hc hs hx hsm hr hd u0 n (b + 1) _ _ _ _ _ (by omega) (by omega) (by omega)
/-- within twelve either way -/
def Tw (q : Rat) : Prop := q.num.natAbs ≤ 12 ∧ q.den ≤ 7
theorem Tw.sm {q : Rat} (h : Tw q) : Sm 100 q := by
  have h1 : (7 : Nat) < 2 ^ 100 := by decide
  have h2 : (12 : Nat) < 2 ^ 100 := by decide
  exact ⟨Nat.lt_of_le_of_lt h.1 h2, Nat.lt_of_le_of_lt h.2 h1⟩
theorem tw_mk (v w : Nat) (hv : v < 25) (hw : w < 7) : Tw (mkRat ((v : Int) - 12) (1 + w)) := by
  rw [Rat.mkRat_def, dif_neg (by omega), Rat.normalize_eq]
  refine ⟨?_, Nat.le_trans (Nat.div_le_self _ _) (by omega)⟩
  show (_ / _ : Int).natAbs ≤ 12
  exact Nat.le_trans (Int.natAbs_ediv_le_natAbs _ _) (by omega)
theorem best_in {a c x : Rat} (ha : Tw a) (hc : Tw c) (h : Best a c x) : -(13 * (x.den : Int)) ≤ x.num ∧ x.num ≤ 13 * x.den := by
  obtain ⟨⟨h1, h2⟩, _⟩ := h
  have d1 : (0 : Int) < a.den := by have := a.den_pos; omega
  have d2 : (0 : Int) < c.den := by have := c.den_pos; omega
  have d3 : (0 : Int) < x.den := by have := x.den_pos; omega
  have n1 : -(12 * (a.den : Int)) ≤ a.num := by have := ha.1; omega
  have n2 : c.num ≤ 12 * c.den := by have := hc.1; omega
  refine ⟨?_, ?_⟩
  · have q1 := Int.mul_le_mul_of_nonneg_right n1 (Int.le_of_lt d3)
    have q2 : -(12 * (x.den : Int)) * a.den ≤ x.num * a.den := by
      have : -(12 * (x.den : Int)) * a.den = -(12 * (a.den : Int)) * x.den := by grind
      omega
    have := Int.le_of_mul_le_mul_right q2 d1
    omega
  · have q1 := Int.mul_le_mul_of_nonneg_right n2 (Int.le_of_lt d3)
    have q2 : x.num * c.den ≤ (12 * (x.den : Int)) * c.den := by
      have : (12 * (x.den : Int)) * c.den = 12 * (c.den : Int) * x.den := by grind
      omega
    have := Int.le_of_mul_le_mul_right q2 d2
    omega
theorem rng_59 (S : Store) : rng2 (.int 1) (.int 60) S = .ok ((List.range' 1 59).map fun i : Nat => D.int i) S := by
  have : ((rng2 (.int 1) (.int 60) S) : Out (List D)) = .ok (rangeD 1 1 59) S := rfl
  rw [this]
  exact congrArg (fun z => Out.ok z S) (range_map 59 1)
theorem s_simple_go (k : Nat) (n : Nat) (a c : Rat) (S : Store) (ok : OkS S) (ha : Tw a) (hc : Tw c) (hac : a.num * c.den ≤ c.num * a.den) (u1 u4 u5 u6 u7 : Option D) :
    forGo (.nm 1) (evB (DL.run fns gcons (k + 7)) gcons wB) ((List.range' 1 59).map fun i : Nat => D.int i) [some (.ref n), u1, some (fr a), some (fr c), u4, u5, u6, u7] S = .ret (.bl true) S := by
  obtain ⟨x, e, hx⟩ := s_simplest_between (k + 1) a c S ok hac ha.sm hc.sm (by have := ha.2; have := hc.2; omega)
  have hr := best_in ha hc hx
  have hd : x.den ≤ 7 := by
    have := (hx.2 a.num a.den (by have := a.den_pos; omega) ⟨by omega, by omega⟩).1
    have := ha.2
    omega
  have hd0 := x.den_pos
  have hsm : Sm 10 x := by
    have h10 : (2 : Nat) ^ 10 = 1024 := by decide
    refine ⟨?_, ?_⟩ <;> rw [h10] <;> omega
  exact simple_loop k a c x S ha.sm hc.sm e hx (hsm.mono (by decide)) hr (by omega) (some (.ref n)) 59 1 u1 u4 u5 u6 u7 (by omega) hd0 (by omega)
theorem s_simple_right (k n m : Nat) (S : Store) (hD : Dice n (m + 4) S) : ∃ S', R (k + 8) 57 [.ref n] S = .ok (.bl true) S' ∧ Dice n m S' ∧ S'.length = S.length := by
  obtain ⟨v1, S1, e1, h1, hd1, hl1⟩ := s_roll (k + 6) n (m + 3) 25 S hD (by decide) (by decide)
  obtain ⟨v2, S2, e2, h2, hd2, hl2⟩ := s_roll (k + 6) n (m + 2) 7 S1 hd1 (by decide) (by decide)
  obtain ⟨v3, S3, e3, h3, hd3, hl3⟩ := s_roll (k + 6) n (m + 1) 25 S2 hd2 (by decide) (by decide)
  obtain ⟨v4, S4, e4, h4, hd4, hl4⟩ := s_roll (k + 6) n m 7 S3 hd3 (by decide) (by decide)
  have t1 := tw_mk v1 v2 h1 h2
  have t2 := tw_mk v3 v4 h3 h4
  have sm8 : ∀ w : Nat, w < 7 → 1 + w < 2 ^ 8999 := fun w hw => by
    have h10 : (2 : Nat) ^ 10 = 1024 := by decide
    exact Nat.lt_of_lt_of_le (show 1 + w < 2 ^ 10 by rw [h10]; omega) (Nat.pow_le_pow_right (by decide) (by decide))
  have f1 := s_mc_fr (k + 5) ((v1 : Int) - 12) (1 + v2) S2 (by omega) (sm8 v2 h2)
  have f2 := s_mc_fr (k + 5) ((v3 : Int) - 12) (1 + v4) S4 (by omega) (sm8 v4 h4)
  rw [Int.natCast_add] at f1 f2
  generalize mkRat ((v1 : Int) - 12) (1 + v2) = a at *
  generalize mkRat ((v3 : Int) - 12) (1 + v4) = c at *
  have f3 := s_mc_at_most (k + 6) a c S4 t1.sm t2.sm (by decide)
  have f3' : DL.run fns gcons (k + 7) 54 [fr a, fr c] S4 = .ok (.bl (decide (a ≤ c))) S4 := f3
  have el : S4.length = S.length := by omega
  have f1' : DL.run fns gcons (k + 7) 2 [.int ((v1 : Int) - 12), .int (1 + (v2 : Int))] S2 = .ok (fr a) S2 := f1
  have f2' : DL.run fns gcons (k + 7) 2 [.int ((v3 : Int) - 12), .int (1 + (v4 : Int))] S4 = .ok (fr c) S4 := f2
  have e1' : DL.run fns gcons (k + 7) 13 [.ref n, .int 25] S = .ok (.int v1) S1 := e1
  have e2' : DL.run fns gcons (k + 7) 13 [.ref n, .int 7] S1 = .ok (.int v2) S2 := e2
  have e3' : DL.run fns gcons (k + 7) 13 [.ref n, .int 25] S2 = .ok (.int v3) S3 := e3
  have e4' : DL.run fns gcons (k + 7) 13 [.ref n, .int 7] S3 = .ok (.int v4) S4 := e4
  refine ⟨S4, ?_, hd4, el⟩
  rw [R, run_at at_law_simple_right rfl]
  by_cases h : a ≤ c
  · have hi := (Rat.le_iff a c).mp h
    rw [decide_eq_true h] at f3'
    have g := s_simple_go k n a c S4 hd4.1 t1 t2 hi none none none none none
    simp [F_law_simple_right, startD, e1', e2', e3', e4', f1', f2', fits_le, f3', rng_59, g]
    rw [end_len el]
  · have hi : c.num * a.den ≤ a.num * c.den := by
      have := mt (Rat.le_iff a c).mpr h
      omega
    rw [decide_eq_false h] at f3'
    have g := s_simple_go k n c a S4 hd4.1 t2 t1 hi none none none none none
    simp [F_law_simple_right, startD, e1', e2', e3', e4', f1', f2', fits_le, f3', rng_59, g]
    rw [end_len el]
end LW
end
section
set_option Elab.async false
set_option autoImplicit false
set_option linter.all false
set_option maxRecDepth 100000
set_option maxHeartbeats 2000000
set_option exponentiation.threshold 200
namespace LW
open DL
theorem s_drawn (k n m : Nat) (S : Store) (h : Dice n (m + 4) S) : ∃ (q : Rat) (S' : Store), R (k + 3) 15 [.ref n] S = .ok (fr q) S' ∧ Sm 120 q ∧ Dice n m S' ∧ S'.length = S.length := by
  obtain ⟨d, S1, e1, hm, hd1, hl1⟩ := s_pick k n (m + 3) [.int 1, .int 1, .int 1, .int 1000003, .int 10000000000000000000000000000007] S h (by decide) (by decide)
  obtain ⟨v, S2, e2, hv, hd2, hl2⟩ := s_roll (k + 1) n (m + 2) 41 S1 hd1 (by decide) (by decide)
  obtain ⟨w, S3, e3, hw, hd3, hl3⟩ := s_roll (k + 1) n (m + 1) 3 S2 hd2 (by decide) (by decide)
  obtain ⟨u, S4, e4, hu, hd4, hl4⟩ := s_roll (k + 1) n m 12 S3 hd3 (by decide) (by decide)
  have hg : ∃ g : Int, d = .int g ∧ 0 < g ∧ g ≤ 10000000000000000000000000000007 := by
    simp at hm
    rcases hm with rfl | rfl | rfl
    · exact ⟨1, rfl, by decide, by decide⟩
    · exact ⟨_, rfl, by decide, by decide⟩
    · exact ⟨_, rfl, by decide, by decide⟩
  obtain ⟨g, rfl, g0, g1⟩ := hg
  have p1 : ∀ S, op2 .pow (.int 10) (.int 6) S = .ok (.int 1000000) S := fun _ => rfl
  have p2 : ∀ S, op2 .pow (.int 10) (.int 31) S = .ok (.int 10000000000000000000000000000000) S := fun _ => rfl
  have hp120 : (2 : Nat) ^ 120 = 1329227995784915872903807060280344576 := by decide
  have gb : g.natAbs < 2 ^ 120 := by rw [hp120]; omega
  have vb : ((v : Int) - 20).natAbs < 2 ^ 10 := by
    have h10 : (2 : Nat) ^ 10 = 1024 := by decide
    rw [h10]; omega
  have m1 : ∀ S, op2 .mul (.int ((v : Int) - 20)) (.int g) S = .ok (.int (((v : Int) - 20) * g)) S := fun S => mul_ok S vb gb (by decide)
  have nb : (((v : Int) - 20) * g + w).natAbs < 2 ^ 120 := by
    have h1 : (((v : Int) - 20) * g).natAbs ≤ 20 * g.natAbs := by
      rw [Int.natAbs_mul]
      exact Nat.mul_le_mul_right _ (by omega)
    have h2 := Int.natAbs_add_le (((v : Int) - 20) * g) w
    rw [hp120]
    omega
  have db : 1 + u < 2 ^ 120 := by rw [hp120]; omega
  have f := s_mc_fr k (((v : Int) - 20) * g + w) (1 + u) S4 (by omega) (Nat.lt_of_lt_of_le db (Nat.pow_le_pow_right (by decide) (by decide)))
  have f' : DL.run fns gcons (k + 2) 2 [.int (((v : Int) - 20) * g + w), .int (1 + (u : Int))] S4 = .ok (fr (mkRat (((v : Int) - 20) * g + w) (1 + u))) S4 := by
    have e : ((1 + u : Nat) : Int) = 1 + (u : Int) := by omega
    rw [e] at f
    exact f
  have e1' : DL.run fns gcons (k + 2) 14 [.ref n, .lst [.int 1, .int 1, .int 1, .int 1000003, .int 10000000000000000000000000000007]] S = .ok (.int g) S1 := e1
  have e2' : DL.run fns gcons (k + 2) 13 [.ref n, .int 41] S1 = .ok (.int v) S2 := e2
  have e3' : DL.run fns gcons (k + 2) 13 [.ref n, .int 3] S2 = .ok (.int w) S3 := e3
  have e4' : DL.run fns gcons (k + 2) 13 [.ref n, .int 12] S3 = .ok (.int u) S4 := e4
  refine ⟨_, S4, ?_, mk_small nb db (by omega), hd4, by omega⟩
  rw [R, run_at at_law_drawn rfl]
  simp [F_law_drawn, startD, p1, p2, fits_le, e1', e2', m1, e3', e4', f']
  rw [end_len (by omega)]
/-! sums, the least, the greatest -/
theorem s_sum_tup (k : Nat) (r : Row) (S : Store) {n : Nat} (hr : ∀ q ∈ r, Sm n q) (h : (r.length + 1) * (n + 1) ≤ 8990) : R (k + 4) 7 [rowD r] S = .ok (fr (sumR r)) S := by
  have e0 : (r.length + 1) * (n + 1) = r.length * (n + 1) + (n + 1) := by rw [Nat.add_mul]; omega
  obtain ⟨l', e1, e2⟩ := for_fold (tg := .nm 2) (body := evB (DL.run fns gcons (k + 3)) gcons [.asg (.nm 1) (.call 6 [.slot 1, .slot 2])]) fr (fun b l => [some (rowD r), some (fr b), l.map fr]) (fun a p => a + p)
    (fun i b => ∃ m, Sm m b ∧ m + i * (n + 1) ≤ 1 + r.length * (n + 1)) S r 0 0 none ⟨1, Sm.zero, by simp only [Nat.zero_add]; omega⟩ (fun x hx i b l ⟨m, hm, hi⟩ => by
      rw [Nat.add_mul] at hi
      refine ⟨[some (rowD r), some (fr b), some (fr x)], rfl, ?_, m + n + 1, hm.add (hr x hx), by omega⟩
      simp [s_added _ _ _ _ hm (hr x hx) (by omega)])
  rw [R, run_at at_sum_by rfl]
  simp [F_sum_by, startD]
  simp at e1
  rw [e1]
  simp [sumR]
theorem s_require_numbers (k j : Nat) (r : Row) (S : Store) (hr : SmR 8000 r) (hj : j ≤ r.length) : R (k + 4) 11 [rowD r, .int j] S = .ok (rowD r) S := by
  have h : decide (r.length < j) = false := decide_eq_false (by omega)
  rw [R, run_at at_require_numbers rfl]
  simp [F_require_numbers, startD, s_are_fractions _ _ _ hr, -decide_eq_false_iff_not]
  rw [h]
  simp
theorem s_sum_of (k : Nat) (r : Row) (S : Store) {n : Nat} (hr : SmR n r) (h : (r.length + 1) * (n + 1) ≤ 8000) : R (k + 5) 12 [rowD r] S = .ok (fr (sumR r)) S := by
  have hn : n ≤ 8000 := by
    have : 1 * (n + 1) ≤ (r.length + 1) * (n + 1) := Nat.mul_le_mul_right _ (by omega)
    omega
  have e := s_require_numbers k 0 r S (hr.mono hn) (by omega)
  have e' : DL.run fns gcons (k + 4) 11 [rowD r, .int 0] S = .ok (rowD r) S := e
  rw [R, run_at at_sum_of rfl]
  simp [F_sum_of, startD, e', s_sum_tup k r S hr.2 (by omega)]
def minR (x : Rat) (r : Row) : Rat := r.foldl (fun f o => if o < f then o else f) x
def sq (t : Bool) (xs : List D) : D := if t then .tup xs else .lst xs
theorem s_least_by (k : Nat) (t : Bool) (x : Rat) (r : Row) (S : Store) (hx : Sm 120 x) (hr : ∀ q ∈ r, Sm 120 q) : R (k + 2) 17 [sq t ((x :: r).map fr)] S = .ok (fr (minR x r)) S ∧ Sm 120 (minR x r) := by
  obtain ⟨l', e1, e2⟩ := for_fold (tg := .nm 2) (body := evB (DL.run fns gcons (k + 1)) gcons [.asg (.nm 1) (.ite (.val (.call 16 [.slot 2, .slot 1])) (.slot 2) (.slot 1))]) fr (fun b l => [some (sq t ((x :: r).map fr)), some (fr b), l.map fr]) (fun f o => if o < f then o else f)
    (fun i b => Sm 120 b) S r 0 x none hx (fun y hy i b l hb => by
      refine ⟨[some (sq t ((x :: r).map fr)), some (fr b), some (fr y)], rfl, ?_, by split; exact hr y hy; exact hb⟩
      have e := s_is_less_by k y b S (hr y hy) hb (by decide)
      by_cases hlt : y < b
      · rw [decide_eq_true hlt] at e
        simp [e, hlt]
      · rw [decide_eq_false hlt] at e
        simp [e, hlt])
  refine ⟨?_, e2⟩
  have i0 : item (sq t ((x :: r).map fr)) (.int 0) S = .ok (fr x) S := by
    cases t <;> simp [sq, item, getAt, ixAt, lOf] <;> omega
  have sl : slice (sq t ((x :: r).map fr)) (some 1) none S = .ok (sq t (r.map fr)) S := by
    have c : cut ((x :: r).map fr) (some 1) none = r.map fr := by
      unfold cut clip
      simp
      rw [List.take_of_length_le (by simp)]
    cases t
    · show Out.ok (D.lst (cut ((x :: r).map fr) (some 1) none)) S = _
      rw [c]; rfl
    · show Out.ok (D.tup (cut ((x :: r).map fr) (some 1) none)) S = _
      rw [c]; rfl
  have wk : walk (sq t (r.map fr)) S = some (r.map fr) := by cases t <;> rfl
  rw [R, run_at at_least_by rfl]
  simp at e1 i0 sl
  simp [F_least_by, startD, i0, sl, wk]
  rw [e1]
  simp [minR]
theorem s_least_of (k : Nat) (x : Rat) (r : Row) (S : Store) (h : SmR 120 (x :: r)) : R (k + 5) 18 [rowD (x :: r)] S = .ok (fr (minR x r)) S := by
  have e := s_require_numbers k 1 (x :: r) S (h.mono (by decide)) (by simp)
  have e' : DL.run fns gcons (k + 4) 11 [rowD (x :: r), .int 1] S = .ok (rowD (x :: r)) S := e
  have f := (s_least_by (k + 2) true x r S (h.2 x List.mem_cons_self) fun q hq => h.2 q (List.mem_cons_of_mem _ hq)).1
  have f' : DL.run fns gcons (k + 4) 17 [rowD (x :: r)] S = .ok (fr (minR x r)) S := f
  rw [R, run_at at_least_of rfl]
  simp [F_least_of, startD, e', f']
theorem s_greatest_of (k : Nat) (x : Rat) (r : Row) (S : Store) (h : SmR 120 (x :: r)) : R (k + 5) 21 [rowD (x :: r)] S = .ok (fr (-(minR (-x) (r.map fun q => -q)))) S := by
  have e := s_require_numbers k 1 (x :: r) S (h.mono (by decide)) (by simp)
  have e' : DL.run fns gcons (k + 4) 11 [rowD (x :: r), .int 1] S = .ok (rowD (x :: r)) S := e
  have hn : ∀ q ∈ r.map (fun q : Rat => -q), Sm 120 q := fun q hq => by
    obtain ⟨p, hp, rfl⟩ := List.mem_map.mp hq
    exact (h.2 p (List.mem_cons_of_mem _ hp)).neg
  have f := (s_least_by (k + 1) false (-x) (r.map fun q => -q) S (h.2 x List.mem_cons_self).neg hn).1
  have f' : DL.run fns gcons (k + 3) 17 [.lst (((-x) :: r.map fun q => -q).map fr)] S = .ok (fr (minR (-x) (r.map fun q => -q))) S := f
  have c := fun σ => comp_of (tg := .nm 1) (σ := σ) (test := evC (DL.run fns gcons (k + 3)) gcons none) (elt := evE (DL.run fns gcons (k + 3)) gcons (.call 19 [.slot 1])) fr (fun q => fr (-q)) (fun q => σ.set 1 (some (fr q))) (fun _ _ => x_c0) S (x :: r) []
  have g : R (k + 4) 20 [rowD (x :: r)] S = .ok (fr (-(minR (-x) (r.map fun q => -q)))) S := by
    rw [R, run_at at_greatest_by rfl]
    simp only [F_greatest_by, startD]
    have w0 : walk (rowD (x :: r)) S = some ((x :: r).map fr) := w_row
    have cc : compGo (.nm 1) (evC (DL.run fns gcons (k + 3)) gcons none) (evE (DL.run fns gcons (k + 3)) gcons (.call 19 [.slot 1])) [some (rowD (x :: r)), none] ((x :: r).map fr) [] S = .ok (.lst (((-x) :: r.map fun q => -q).map fr)) S := by
      rw [c]
      · simp [List.map_map, Function.comp_def]
      · intro q hq
        refine ⟨rfl, ?_⟩
        simp [s_opposite]
      · have := h.1
        simp [bigN] at this ⊢; omega
    have en : (List.map some [rowD (x :: r)] ++ List.replicate (2 - [rowD (x :: r)].length) none : Env) = [some (rowD (x :: r)), none] := rfl
    rw [en]
    simp [-List.map_cons, -w_row, w0, wipeD, cc, f', s_opposite]
  have g' : DL.run fns gcons (k + 4) 20 [rowD (x :: r)] S = _ := g
  rw [R, run_at at_greatest_of rfl]
  simp [F_greatest_of, startD, e', g']
end LW
end
section
set_option Elab.async false
set_option autoImplicit false
set_option linter.all false
set_option maxRecDepth 100000
set_option maxHeartbeats 2000000
set_option exponentiation.threshold 200
namespace LW
open DL
/-! plain facts on sums and on the least -/
theorem fold_add (r : Row) : ∀ a : Rat, r.foldl (fun a p => a + p) a = a + r.foldl (fun a p => a + p) 0 := by
  induction r with
  | nil => intro a; exact (Rat.add_zero a).symm
  | cons x r ih =>
    intro a
    rw [List.foldl_cons, List.foldl_cons, ih (a + x), ih (0 + x)]
    rw [Rat.zero_add, Rat.add_assoc]
theorem sumR_cons (x : Rat) (r : Row) : sumR (x :: r) = x + sumR r := by
  unfold sumR
  rw [List.foldl_cons, fold_add, Rat.zero_add]
theorem sumR_app (r t : Row) : sumR (r ++ t) = sumR r + sumR t := by
  induction r with
  | nil => exact (Rat.zero_add _).symm
  | cons x r ih => rw [List.cons_append, sumR_cons, sumR_cons, ih, Rat.add_assoc]
theorem sumR_rev (r : Row) : sumR r.reverse = sumR r := by
  induction r with
  | nil => rfl
  | cons x r ih =>
    rw [List.reverse_cons, sumR_app, ih, sumR_cons]
    rw [sumR_cons, Rat.add_comm]
    exact congrArg (fun z => z + sumR r) (Rat.add_zero x)
def lo2 (f o : Rat) : Rat := if o ≤ f then o else f
def hi2 (f o : Rat) : Rat := if f ≤ o then o else f
theorem lo2_min : ∀ (r : Row) (x : Rat), r.foldl lo2 x = minR x r
  | [], x => rfl
  | y :: r, x => by
    have e : lo2 x y = if y < x then y else x := by
      unfold lo2
      by_cases h : y < x
      · rw [if_pos h, if_pos (Rat.le_of_lt h)]
      · rw [if_neg h]
        by_cases h2 : y ≤ x
        · rw [if_pos h2]; exact Rat.le_antisymm h2 (Rat.not_lt.mp h)
        · rw [if_neg h2]
    rw [List.foldl_cons, lo2_min r, minR, minR, List.foldl_cons, e]
theorem hi2_max : ∀ (r : Row) (x : Rat), r.foldl hi2 x = -(minR (-x) (r.map fun q => -q))
  | [], x => by simp [minR]
  | y :: r, x => by
    have e : -(hi2 x y) = if -y < -x then -y else -x := by
      unfold hi2
      by_cases h : x < y
      · rw [if_pos (Rat.neg_lt_neg h), if_pos (Rat.le_of_lt h)]
      · have h' : ¬ -y < -x := fun z => h (by have := Rat.neg_lt_neg z; simpa using this)
        rw [if_neg h']
        by_cases h2 : x ≤ y
        · rw [if_pos h2]
          exact congrArg _ (Rat.le_antisymm (Rat.not_lt.mp h) h2)
        · rw [if_neg h2]
    rw [List.foldl_cons, hi2_max r, minR, minR, List.map_cons, List.foldl_cons, e]
theorem lo2_self (x : Rat) (r : Row) : (x :: r).foldl lo2 x = minR x r := by
  rw [List.foldl_cons, lo2_min]
  simp [lo2]
theorem hi2_self (x : Rat) (r : Row) : (x :: r).foldl hi2 x = -(minR (-x) (r.map fun q => -q)) := by
  rw [List.foldl_cons, hi2_max]
  simp [hi2]
theorem rows_of2 {n : Nat} : ∀ vs : List D, (∀ v ∈ vs, ∃ q, v = fr q ∧ Sm n q) → ∃ r : Row, vs = r.map fr ∧ ∀ q ∈ r, Sm n q
  | [], _ => ⟨[], rfl, by simp⟩
  | v :: vs, h => by
    obtain ⟨q, rfl, hq⟩ := h v List.mem_cons_self
    obtain ⟨r, rfl, hr⟩ := rows_of2 vs fun w hw => h w (List.mem_cons_of_mem _ hw)
    exact ⟨q :: r, rfl, fun p hp => by
      rcases List.mem_cons.mp hp with rfl | hp
      · exact hq
      · exact hr p hp⟩
/-! ### the law -/
abbrev lawIn : List St := [.asg (.tp [(.nm 5), (.nm 9)]) (.tup [(.call 15 [(.slot 2)]), (.call 15 [(.slot 2)])]),
    .ite (.or (.not (.val (.call 38 [(.slot 2), (.slot 5), (.slot 9)]))) (.or (.not (.val (.call 53 [(.slot 2), (.slot 5)]))) (.not (.val (.call 57 [(.slot 2)]))))) [.ret (.con (.bl false))] []]
theorem s_turn (k n m : Nat) (T : Store) (hT : Dice n (m + 13) T) (u0 u1 u3 u4 u5 u6 u7 u8 u9 : Option D) :
    ∃ (p q : Rat) (T' : Store), evB (DL.run fns gcons (k + 9)) gcons lawIn [u0, u1, some (.ref n), u3, u4, u5, u6, u7, u8, u9] T = .nx [u0, u1, some (.ref n), u3, u4, some (fr p), u6, u7, u8, some (fr q)] T' ∧ Dice n m T' := by
  obtain ⟨p, T1, e1, hp, hd1, hl1⟩ := s_drawn (k + 6) n (m + 9) T hT
  obtain ⟨q, T2, e2, hq, hd2, hl2⟩ := s_drawn (k + 6) n (m + 5) T1 hd1
  have e3 := s_two_right (k + 3) (.ref n) p q T2 hp hq
  obtain ⟨T3, e4, hd3, hl3⟩ := s_one_right (k + 3) n (m + 4) p T2 hd2 hp
  obtain ⟨T4, e5, hd4, hl4⟩ := s_simple_right (k + 1) n m T3 hd3
  have e1' : DL.run fns gcons (k + 9) 15 [.ref n] T = .ok (fr p) T1 := e1
  have e2' : DL.run fns gcons (k + 9) 15 [.ref n] T1 = .ok (fr q) T2 := e2
  have e3' : DL.run fns gcons (k + 9) 38 [.ref n, fr p, fr q] T2 = .ok (.bl true) T2 := e3
  have e4' : DL.run fns gcons (k + 9) 53 [.ref n, fr p] T2 = .ok (.bl true) T3 := e4
  have e5' : DL.run fns gcons (k + 9) 57 [.ref n] T3 = .ok (.bl true) T4 := e5
  refine ⟨p, q, T4, ?_, hd4⟩
  simp [e1', e2', e3', e4', e5', fits_le]
theorem s_some (k n m : Nat) (T : Store) (hT : Dice n (m + 25) T) (u0 u1 u3 u4 u5 u6 u7 u8 u9 : Option D) :
    ∃ (x : Rat) (r : Row) (T' : Store), evE (DL.run fns gcons (k + 9)) gcons (.bi .tuple [(.comp (.nm 3) (.rng1 (.bin .add (.con (.int 1)) (.call 13 [(.slot 2), (.con (.int 6))]))) .none (.call 15 [(.slot 2)]) [3])]) [u0, u1, some (.ref n), u3, u4, u5, u6, u7, u8, u9] T = .ok (rowD (x :: r)) T' ∧ (x :: r).length ≤ 6 ∧ (∀ q ∈ x :: r, Sm 120 q) ∧ Dice n m T' := by
  obtain ⟨w, T1, e1, hw, hd1, hl1⟩ := s_roll (k + 8) n (m + 24) 6 T hT (by decide) (by decide)
  have e1' : DL.run fns gcons (k + 9) 13 [.ref n, .int 6] T = .ok (.int w) T1 := e1
  obtain ⟨vs, S', e, hl, hp, hi⟩ := comp_ex (tg := .nm 3) (σ := [u0, u1, some (.ref n), none, u4, u5, u6, u7, u8, u9]) (test := evC (DL.run fns gcons (k + 9)) gcons none)
    (elt := evE (DL.run fns gcons (k + 9)) gcons (.call 15 [.slot 2]))
    (fun _ _ => x_c0) (fun v => ∃ q, v = fr q ∧ Sm 120 q) (fun i T => Dice n (m + 4 * i) T) 0 ((List.range (1 + w)).map fun i : Nat => D.int i) [] T1 (fun d hd i T hT => by
      obtain ⟨q, T2, e2, hq, hd2, hl2⟩ := s_drawn (k + 6) n (m + 4 * i) T hT
      have e2' : DL.run fns gcons (k + 9) 15 [.ref n] T = .ok (fr q) T2 := e2
      exact ⟨[u0, u1, some (.ref n), some d, u4, u5, u6, u7, u8, u9], fr q, T2, rfl, by simp [e2'], ⟨q, rfl, hq⟩, hd2⟩) (hd1.weak (by simp; omega)) (by simp [bigN]; omega)
  obtain ⟨r, rfl, hr⟩ := rows_of2 vs hp
  have hrl : r.length = 1 + w := by simpa using hl
  cases r with
  | nil => simp at hrl; omega
  | cons x r =>
    refine ⟨x, r, S', ?_, by omega, hr, hi⟩
    have rn : rng2 (.int 0) (.int (1 + (w : Int))) T1 = .ok ((List.range (1 + w)).map fun i : Nat => D.int i) T1 := by
      have := rng_nat (1 + w) T1 (by omega)
      rw [Int.natCast_add] at this
      exact this
    simp [wipeD, e1', rn]
    simp at e
    rw [e]
    simp [rowD]
abbrev sumIn : List St := [.asg (.nm 6) (.call 3 [(.slot 6), (.slot 5)]),
    .asg (.tp [(.nm 7), (.nm 8)]) (.tup [(.ite (.val (.call 54 [(.slot 5), (.slot 7)])) (.slot 5) (.slot 7)), (.ite (.val (.call 54 [(.slot 8), (.slot 5)])) (.slot 5) (.slot 8))])]
theorem s_sums (k : Nat) (x : Rat) (r : Row) (S : Store) (hr : ∀ q ∈ x :: r, Sm 120 q) (hl : (x :: r).length ≤ 6) (u0 u1 u2 u3 u4 u5 u9 : Option D) : ∃ v5 : Option D,
    forGo (.nm 5) (evB (DL.run fns gcons (k + 9)) gcons sumIn) ((x :: r).map fr) [u0, u1, u2, u3, u4, u5, some (fr 0), some (fr x), some (fr x), u9] S = .nx [u0, u1, u2, u3, u4, v5, some (fr (sumR (x :: r))), some (fr (minR x r)), some (fr (-(minR (-x) (r.map fun q => -q)))), u9] S := by
  obtain ⟨l', e1, e2⟩ := for_fold (tg := .nm 5) (body := evB (DL.run fns gcons (k + 9)) gcons sumIn) fr (fun (b : Rat × Rat × Rat) l => [u0, u1, u2, u3, u4, l.elim u5 (fun q => some (fr q)), some (fr b.1), some (fr b.2.1), some (fr b.2.2), u9]) (fun b a => (b.1 + a, lo2 b.2.1 a, hi2 b.2.2 a))
    (fun i b => (∃ m, Sm m b.1 ∧ m + i * 121 ≤ 1 + 6 * 121) ∧ Sm 120 b.2.1 ∧ Sm 120 b.2.2) S (x :: r) 0 (0, x, x) none ⟨⟨1, Sm.zero, by omega⟩, hr x List.mem_cons_self, hr x List.mem_cons_self⟩ (fun y hy i b l ⟨⟨m, hm, hi⟩, h1, h2⟩ => by
      have hy := hr y hy
      refine ⟨[u0, u1, u2, u3, u4, some (fr y), some (fr b.1), some (fr b.2.1), some (fr b.2.2), u9], rfl, ?_, ⟨m + 121, hm.add hy, by omega⟩, by unfold lo2; split <;> assumption, by unfold hi2; split <;> assumption⟩
      have f1 := s_mc_plus (k + 6) b.1 y S hm hy (by omega)
      have f2 := s_mc_at_most (k + 8) y b.2.1 S hy h1 (by decide)
      have f3 := s_mc_at_most (k + 8) b.2.2 y S h2 hy (by decide)
      have f1' : DL.run fns gcons (k + 9) 3 [fr b.1, fr y] S = .ok (fr (b.1 + y)) S := f1
      have f2' : DL.run fns gcons (k + 9) 54 [fr y, fr b.2.1] S = .ok (.bl (decide (y ≤ b.2.1))) S := f2
      have f3' : DL.run fns gcons (k + 9) 54 [fr b.2.2, fr y] S = .ok (.bl (decide (b.2.2 ≤ y))) S := f3
      by_cases c1 : y ≤ b.2.1 <;> by_cases c2 : b.2.2 ≤ y
      · rw [decide_eq_true c1] at f2'; rw [decide_eq_true c2] at f3'
        simp [f1', f2', f3', fits_le, lo2, hi2, c1, c2]
      · rw [decide_eq_true c1] at f2'; rw [decide_eq_false c2] at f3'
        simp [f1', f2', f3', fits_le, lo2, hi2, c1, c2]
      · rw [decide_eq_false c1] at f2'; rw [decide_eq_true c2] at f3'
        simp [f1', f2', f3', fits_le, lo2, hi2, c1, c2]
      · rw [decide_eq_false c1] at f2'; rw [decide_eq_false c2] at f3'
        simp [f1', f2', f3', fits_le, lo2, hi2, c1, c2])
  have fold3 : ∀ (r : Row) (a b c : Rat), r.foldl (fun (b : Rat × Rat × Rat) a => (b.1 + a, lo2 b.2.1 a, hi2 b.2.2 a)) (a, b, c) = (r.foldl (fun a p => a + p) a, r.foldl lo2 b, r.foldl hi2 c) := by
    intro r
    induction r with
    | nil => intro a b c; rfl
    | cons y r ih => intro a b c; rw [List.foldl_cons, ih]; rfl
  rw [fold3, lo2_self, hi2_self] at e1
  exact ⟨_, e1⟩
end LW
end
section
set_option Elab.async false
set_option autoImplicit false
set_option linter.all false
set_option maxRecDepth 100000
set_option maxHeartbeats 2000000
set_option exponentiation.threshold 200
namespace LW
open DL
theorem for_ex {tg : Tg} {body : Env → Store → OutS} (Inv : Nat → Env → Store → Prop) (m : Nat) : ∀ (ds : List D) (σ : Env) (S : Store),
    (∀ d ∈ ds, ∀ m σ S, Inv (m + 1) σ S → ∃ σ2 σ' S', asg tg d σ = some σ2 ∧ body σ2 S = .nx σ' S' ∧ Inv m σ' S') → Inv (m + ds.length) σ S →
    ∃ σ' S', forGo tg body ds σ S = .nx σ' S' ∧ Inv m σ' S'
  | [], σ, S, _, hi => ⟨σ, S, by simp [forGo], hi⟩
  | d :: ds, σ, S, hx, hi => by
    obtain ⟨σ2, σ3, S1, h1, h2, h3⟩ := hx d List.mem_cons_self (m + ds.length) σ S (by simpa [Nat.add_assoc] using hi)
    obtain ⟨σ4, S2, e1, e2⟩ := for_ex Inv m ds σ3 S1 (fun e he => hx e (List.mem_cons_of_mem _ he)) h3
    refine ⟨σ4, S2, ?_, e2⟩
    rw [forGo, h1]
    dsimp only
    rw [h2]
    exact e1
theorem pow_facts : ∃ a b e : Int, (∀ S, op2 .pow (.int 10) (.int 47) S = .ok (.int a) S) ∧ (∀ S, op2 .pow (.int a) (.int 7) S = .ok (.int b) S) ∧ (∀ S, op2 .pow (.int 10) (.int 15) S = .ok (.int e) S) ∧ b ≠ 0 :=
  ⟨10 ^ 47, (10 ^ 47) ^ 7, 10 ^ 15, fun _ => rfl, fun _ => rfl, fun _ => rfl, by decide⟩
theorem s_dice (k : Nat) (ns : List Int) (spot : Nat) (S : Store) (hs : spot < 63) : ∃ a b : Int, R (k + 1) 0 [.scr ns, .int spot] S = .ok (.ref S.length) (S ++ [[.int a, .int b, .int 0]]) := by
  obtain ⟨p, q, e, h1, h2, h3, hq⟩ := pow_facts
  have mo : ∀ (x y : Int) S, y ≠ 0 → op2 .mod (.int x) (.int y) S = .ok (.int (x.fmod y)) S := fun x y S hy => by
    show (if decide (y ≠ 0) = true then (Out.ok (D.int (x.fmod y)) S : Out D) else .bad) = _
    rw [if_pos (decide_eq_true hy)]
  have fb : ∀ x y : Int, 0 < y → 0 ≤ x.fmod y ∧ x.fmod y < y := fun x y hy => ⟨Int.fmod_nonneg_of_pos x hy, Int.fmod_lt_of_pos x hy⟩
  have l1 : lenD (.scr ns) S = .ok (.int ns.length) S := rfl
  have m1 : ∀ (z : Int) S, op2 .mul (.int (z.fmod 2305843009213693669)) (.int 89) S = .ok (.int (z.fmod 2305843009213693669 * 89)) S := fun z S => by
    have := fb z 2305843009213693669 (by decide)
    generalize z.fmod 2305843009213693669 = t at *
    exact mul_ok (m := 62) (n := 30) S (by omega) (by decide) (by decide)
  have m2 : ∀ S, op2 .mul (.int 733) (.int spot) S = .ok (.int (733 * spot)) S := fun S => mul_ok (m := 30) (n := 30) S (by decide) (by omega) (by decide)
  have m3 : ∀ S, op2 .mul (.int 173) (.int spot) S = .ok (.int (173 * spot)) S := fun S => mul_ok (m := 30) (n := 30) S (by decide) (by omega) (by decide)
  have m4 : ∀ S, op2 .mul (.int 43) (.int 1) S = .ok (.int 43) S := fun S => rfl
  have m5 : ∀ S, op2 .mul (.int 43) (.int 0) S = .ok (.int 0) S := fun S => rfl
  have en : ∀ a b : Int, endOf S.length (.ret (.ref S.length) (S ++ [[.int a, .int b, .int 0]])) = .ok (.ref S.length) (S ++ [[.int a, .int b, .int 0]]) := fun a b => by
    show Out.ok _ (trim S.length (.ref S.length) (S ++ [[.int a, .int b, .int 0]])) = _
    unfold trim
    have n1 : Nat.beq (S ++ [[D.int a, .int b, .int 0]]).length S.length = false := by
      cases h : Nat.beq (S ++ [[D.int a, .int b, .int 0]]).length S.length with
      | false => rfl
      | true => have := Nat.eq_of_beq_eq_true h; simp at this
    have n2 : refsBelow S.length (.ref S.length) = false := by
      show Nat.ble (S.length + 1) S.length = false
      cases h : Nat.ble (S.length + 1) S.length with
      | false => rfl
      | true => have := Nat.le_of_ble_eq_true h; omega
    rw [n1, n2]; rfl
  have ab : ∀ x : Int, ∃ y, absD (.int x) S = .ok (.int y) S := fun x => ⟨_, rfl⟩
  have mx : ∀ x y : Int, ∃ z, maxD (.int x) (.int y) S = .ok (.int z) S := fun x y => ⟨_, rfl⟩
  have i0 : ∀ x : Int, intD (.int x) S = .ok (.int x) S := fun _ => rfl
  have i2 : intD (.bl true) S = .ok (.int 1) S := rfl
  have i3 : intD (.bl false) S = .ok (.int 0) S := rfl
  by_cases hc : spot < ns.length
  · have hc' : (spot : Int) < ns.length := by omega
    have i1 : item (.scr ns) (.int spot) S = .ok (.int ns[spot]) S := by simp [item, ixAt, hc]
    generalize ns[spot] = x at i1
    obtain ⟨y, hy⟩ := ab x
    obtain ⟨z, hz⟩ := mx 0 (y.fmod q - e)
    by_cases hx : x < 0
    · refine ⟨z, (y.fmod q).fmod 2305843009213693669 * 89 + 733 * spot + 43 + 29, ?_⟩
      rw [R, run_at at_law_dice rfl]
      simp [F_law_dice, startD, l1, hc', i1, i0, hy, h1, h2, h3, mo _ _ _ hq, mo, m1, m2, i2, i3, m4, m5, fits_le, hz, hx]
      exact en _ _
    · refine ⟨z, (y.fmod q).fmod 2305843009213693669 * 89 + 733 * spot + 29, ?_⟩
      rw [R, run_at at_law_dice rfl]
      simp [F_law_dice, startD, l1, hc', i1, i0, hy, h1, h2, h3, mo _ _ _ hq, mo, m1, m2, i2, i3, m4, m5, fits_le, hz, hx]
      exact en _ _
  · have hc' : ¬ (spot : Int) < ns.length := by omega
    obtain ⟨y, hy⟩ := ab (173 * spot + 59)
    obtain ⟨z, hz⟩ := mx 0 (y.fmod q - e)
    have hx : ¬ (173 * (spot : Int) + 59 < 0) := by omega
    refine ⟨z, (y.fmod q).fmod 2305843009213693669 * 89 + 733 * spot + 29, ?_⟩
    rw [R, run_at at_law_dice rfl]
    simp [F_law_dice, startD, l1, hc', m3, i0, hy, h1, h2, h3, mo _ _ _ hq, mo, m1, m2, i2, i3, m4, m5, fits_le, hz, hx]
    exact en _ _
abbrev lawOut : List St := [.asg (.nm 2) (.call 0 [.slot 0, .slot 1]), .for_ (.nm 3) (.rng1 (.con (.int 6))) lawIn,
    .asg (.nm 4) (.bi .tuple [(.comp (.nm 3) (.rng1 (.bin .add (.con (.int 1)) (.call 13 [(.slot 2), (.con (.int 6))]))) .none (.call 15 [(.slot 2)]) [3])]),
    .asg (.tp [(.nm 6), (.nm 7), (.nm 8)]) (.tup [(.tup [(.con (.int 0)), (.con (.int 1))]), (.idx (.slot 4) (.con (.int 0))), (.idx (.slot 4) (.con (.int 0)))]),
    .for_ (.nm 5) (.seq (.slot 4)) sumIn,
    .ite (.or (.cmp .ne (.call 12 [(.slot 4)]) (.slot 6)) (.or (.cmp .ne (.call 12 [(.rev (.slot 4))]) (.slot 6)) (.or (.cmp .ne (.call 18 [(.slot 4)]) (.slot 7)) (.cmp .ne (.call 21 [(.slot 4)]) (.slot 8))))) [.ret (.con (.bl false))] []]
theorem s_spot (k : Nat) (ns : List Int) (spot : Nat) (S : Store) (hs : spot < 63) (hS : OkS S) (u2 u3 u4 u5 u6 u7 u8 u9 : Option D) : ∃ (σ' : Env) (S' : Store), evB (DL.run fns gcons (k + 9)) gcons lawOut [some (.scr ns), some (.int spot), u2, u3, u4, u5, u6, u7, u8, u9] S = .nx σ' S' ∧ OkS S' ∧ ∃ v1 v2 v3 v4 v5 v6 v7 v8 v9, σ' = [some (.scr ns), v1, v2, v3, v4, v5, v6, v7, v8, v9] := by
  obtain ⟨a, b, ed⟩ := s_dice (k + 8) ns spot S hs
  have ed' : DL.run fns gcons (k + 9) 0 [.scr ns, .int spot] S = .ok (.ref S.length) (S ++ [[.int a, .int b, .int 0]]) := ed
  generalize hn : S.length = n at ed'
  have hd0 : Dice n (25 + 13 * 6) (S ++ [[.int a, .int b, .int 0]]) := by
    refine ⟨fun xs hx d hd => ?_, a, b, 0, by simp [← hn], by omega, by decide⟩
    rcases List.mem_append.mp hx with hx | hx
    · exact hS xs hx d hd
    · simp only [List.mem_singleton] at hx
      subst hx
      simp at hd
      rcases hd with rfl | rfl | rfl <;> exact ⟨_, rfl⟩
  generalize S ++ [[.int a, .int b, .int 0]] = S1 at *
  obtain ⟨σ4, S4, e4, hd4, v3, v5, v9, rfl⟩ := for_ex (tg := .nm 3) (body := evB (DL.run fns gcons (k + 9)) gcons lawIn)
    (fun m τ T => Dice n (25 + 13 * m) T ∧ ∃ v3 v5 v9, τ = [some (.scr ns), some (.int spot), some (.ref n), v3, u4, v5, u6, u7, u8, v9]) 0 ((List.range 6).map fun i : Nat => D.int i)
    [some (.scr ns), some (.int spot), some (.ref n), u3, u4, u5, u6, u7, u8, u9] S1 (fun d hd m τ T ⟨hT, v3, v5, v9, et⟩ => by
      subst et
      obtain ⟨p, q, T', e, hd'⟩ := s_turn k n (25 + 13 * m) T (hT.weak (by omega)) (some (.scr ns)) (some (.int spot)) (some d) u4 v5 u6 u7 u8 v9
      exact ⟨[some (.scr ns), some (.int spot), some (.ref n), some d, u4, v5, u6, u7, u8, v9], _, T', rfl, e, hd', _, _, _, rfl⟩)
    ⟨hd0, _, _, _, rfl⟩
  obtain ⟨x, r, S5, e5, hl, hr, hd5⟩ := s_some k n 0 S4 (hd4.weak (by omega)) (some (.scr ns)) (some (.int spot)) v3 u4 v5 u6 u7 u8 v9
  have r6 : rng2 (.int 0) (.int 6) S1 = .ok ((List.range 6).map fun i : Nat => D.int i) S1 := rng_nat 6 S1 (by decide)
  have hR : SmR 120 (x :: r) := ⟨by omega, hr⟩
  have hRr : SmR 120 (x :: r).reverse := ⟨by rw [List.length_reverse]; omega, fun q hq => hr q (List.mem_reverse.mp hq)⟩
  have g1 := s_sum_of (k + 4) (x :: r) S5 hR (by have := Nat.mul_le_mul_right 121 (show (x :: r).length + 1 ≤ 7 by omega); omega)
  have g2 := s_sum_of (k + 4) (x :: r).reverse S5 hRr (by rw [List.length_reverse]; have := Nat.mul_le_mul_right 121 (show (x :: r).length + 1 ≤ 7 by omega); omega)
  rw [sumR_rev] at g2
  have g3 := s_least_of (k + 4) x r S5 hR
  have g4 := s_greatest_of (k + 4) x r S5 hR
  have g1' : DL.run fns gcons (k + 9) 12 [rowD (x :: r)] S5 = .ok (fr (sumR (x :: r))) S5 := g1
  have g2' : DL.run fns gcons (k + 9) 12 [rowD (x :: r).reverse] S5 = .ok (fr (sumR (x :: r))) S5 := g2
  have g3' : DL.run fns gcons (k + 9) 18 [rowD (x :: r)] S5 = .ok (fr (minR x r)) S5 := g3
  have g4' : DL.run fns gcons (k + 9) 21 [rowD (x :: r)] S5 = .ok (fr (-(minR (-x) (r.map fun q => -q)))) S5 := g4
  have rv : revd (rowD (x :: r)) S5 = .ok (rowD (x :: r).reverse) S5 := by
    show Out.ok (D.tup ((x :: r).map fr).reverse) S5 = _
    rw [← List.map_reverse]; rfl
  have w0 : walk (rowD (x :: r)) S5 = some ((x :: r).map fr) := w_row
  have i0 : item (rowD (x :: r)) (.int 0) S5 = .ok (fr x) S5 := by
    simp [rowD, item, getAt, ixAt, lOf]
    try omega
  obtain ⟨l', e6⟩ := s_sums k x r S5 hr hl (some (.scr ns)) (some (.int spot)) (some (.ref n)) v3 (some (rowD (x :: r))) v5 v9
  refine ⟨_, S5, ?_, hd5.1, some (.int spot), some (.ref n), v3, some (rowD (x :: r)), l', some (fr (sumR (x :: r))), some (fr (minR x r)), some (fr (-(minR (-x) (r.map fun q => -q)))), v9, rfl⟩
  have z0 : D.tup [.int 0, .int 1] = fr 0 := rfl
  rw [evB]
  simp only [x_asg, x_call, x_es1, x_es4, x_es0, x_slot, x_con, x_bind, x_stm, ed', asgG, x_then, List.getElem?_cons_zero, List.getElem?_cons_succ, List.set]
  rw [evB]
  have ei : ∀ σ, evI (DL.run fns gcons (k + 9)) gcons (.rng1 (.con (.int 6))) σ S1 = .ok ((List.range 6).map fun i : Nat => D.int i) S1 := by
    intro σ
    simp [r6]
    try rfl
  simp only [x_for, ei, x_stm, asgG, asg, List.set, e4, x_then]
  rw [evB]
  simp only [x_asg, e5, x_bind, x_stm, asgG, asg, List.set, x_then]
  rw [evB]
  have e3 : evS (DL.run fns gcons (k + 9)) gcons (.asg (.tp [(.nm 6), (.nm 7), (.nm 8)]) (.tup [(.tup [(.con (.int 0)), (.con (.int 1))]), (.idx (.slot 4) (.con (.int 0))), (.idx (.slot 4) (.con (.int 0)))])) [some (.scr ns), some (.int spot), some (.ref n), v3, some (rowD (x :: r)), v5, u6, u7, u8, v9] S5 = .nx [some (.scr ns), some (.int spot), some (.ref n), v3, some (rowD (x :: r)), v5, some (fr 0), some (fr x), some (fr x), v9] S5 := by
    simp [i0, z0, fits_le]
  rw [e3]
  simp only [x_then]
  rw [evB]
  have es : evI (DL.run fns gcons (k + 9)) gcons (.seq (.slot 4)) [some (.scr ns), some (.int spot), some (.ref n), v3, some (rowD (x :: r)), v5, some (fr 0), some (fr x), some (fr x), v9] S5 = .ok ((x :: r).map fr) S5 := by
    simp [w0, -List.map_cons]
  simp only [x_for, es, x_stm, e6, x_then]
  rw [evB]
  simp [g1', g2', g3', g4', rv, -List.reverse_cons]
theorem s_law (ns : List Int) (hn : ns.length ≤ 63) : ∃ S, R 40 58 [.scr ns] [] = .ok (.bl true) S := by
  have l1 : ∀ S, lenD (.scr ns) S = .ok (.int ns.length) S := fun _ => rfl
  have hm : minD (.int 5) (.int ns.length) [] = .ok (.int (if (ns.length : Int) < 5 then (ns.length : Int) else 5)) [] := rfl
  obtain ⟨N, hN, hN5⟩ : ∃ N : Nat, maxD (.int 1) (.int (if (ns.length : Int) < 5 then (ns.length : Int) else 5)) [] = .ok (.int N) [] ∧ N ≤ 5 := by
    refine ⟨max 1 (min 5 ns.length), ?_, by omega⟩
    show Out.ok (D.int _) _ = _
    congr 2
    split <;> split <;> omega
  obtain ⟨σ', S', e, hS', v1, v2, v3, v4, v5, v6, v7, v8, v9, rfl⟩ := for_ex (tg := .nm 1) (body := evB (DL.run fns gcons 39) gcons lawOut)
    (fun _ σ S => OkS S ∧ ∃ v1 v2 v3 v4 v5 v6 v7 v8 v9, σ = [some (.scr ns), v1, v2, v3, v4, v5, v6, v7, v8, v9]) 0 ((List.range N).map fun i : Nat => D.int i) [some (.scr ns), none, none, none, none, none, none, none, none, none] [] (fun d hd m σ S ⟨hS, v1, v2, v3, v4, v5, v6, v7, v8, v9, es⟩ => by
      simp only [List.mem_map, List.mem_range] at hd
      obtain ⟨spot, hspot, rfl⟩ := hd
      subst es
      obtain ⟨σ4, S4, e, hi⟩ := s_spot 30 ns spot S (by omega) hS v2 v3 v4 v5 v6 v7 v8 v9
      exact ⟨_, σ4, S4, rfl, e, hi⟩) ⟨fun xs hx => by simp at hx, _, _, _, _, _, _, _, _, _, rfl⟩
  have r4 : rng2 (.int 0) (.int N) [] = .ok ((List.range N).map fun i : Nat => D.int i) [] := rng_nat N [] (by omega)
  have t0 := s_sum_of 34 ([] : Row) (n := 1) S' ⟨by simp, fun q hq => by simp at hq⟩ (by decide)
  have t0' : DL.run fns gcons 39 12 [.tup []] S' = .ok (.tup [.int 0, .int 1]) S' := t0
  have hb : evI (DL.run fns gcons 39) gcons (.rng1 (.bi .max [(.con (.int 1)), (.bi .min [(.con (.int 5)), (.bi .len [(.slot 0)])])])) [some (.scr ns), none, none, none, none, none, none, none, none, none] [] = .ok ((List.range N).map fun i : Nat => D.int i) [] := by
    simp [l1, hm, hN, r4]
  refine ⟨trim 0 (.bl true) S', ?_⟩
  rw [R, run_at at_law rfl]
  rw [F_law]
  simp only [startD]
  rw [evB]
  have e0 : (List.map some [D.scr ns] ++ List.replicate (10 - [D.scr ns].length) none : Env) = [some (.scr ns), none, none, none, none, none, none, none, none, none] := rfl
  rw [e0, x_for, hb]
  simp only [x_stm, e, x_then]
  have g0 : gcons[0]? = some (.tup [.int 0, .int 1]) := rfl
  have g4 : gcons[4]? = some (.tup [.int 1, .int 1]) := rfl
  have c0 : cmp2 .eq (.tup [.int 0, .int 1]) (.tup [.int 0, .int 1]) S' = .ok true S' := Eq.trans rfl rfl
  have c1 : cmp2 .eq (.tup [.int 1, .int 1]) (.tup [.int 1, .int 1]) S' = .ok true S' := Eq.trans rfl rfl
  simp [g0, g4, c0, c1, t0', fits_le]
  try rfl
theorem pure_law : ∀ ns : List Int, ns.length ≤ 63 → ∃ S, DL.run fns gcons 40 58 [.scr ns] [] = .ok (.bl true) S := fun ns hn => s_law ns hn
end LW
end
section
set_option Elab.async false
set_option autoImplicit false
set_option linter.all false
set_option maxRecDepth 100000
set_option maxHeartbeats 0
open PySem PySem.W PySem.Calls PyProof.Rows
theorem PySem.Challenge.cw_meanclouds_k21_whole_fractions_holds : PySem.Challenge.rw_meanclouds_k21_whole_fractions.Holds := by
  w_on; o_law
  refine HandSHeadRun.head_any (r := LW.RW) (q := LW.qv) (H := LW.hk) (ob := LW.ob) (M := 8000) (loose := LW.loose) (d := HandSHeadRun.topDef LW.RW.prog 74) (kwd := []) LW.ob_eq
    (by kernel_rfl) (fun s => by kernel_rfl) LW.run (by kernel_rfl) (by kernel_rfl) (by kernel_rfl) (by rfl) (by first | assumption | decide +kernel) (by decide +kernel) ⟨rfl, rfl, rfl, rfl, rfl, by decide +kernel⟩ ?hw ?hc
  case hw => w_witness2
  case hc =>
    exact DL.law_end (l := PySem.Challenge.rw_meanclouds_k21_whole_fractions) (n := 63) (k := 40) (g := 58) (x := "script") (r := LW.R_law) rfl (by decide) (by kernel_rfl) ⟨rfl, by decide, by decide⟩ (by kernel_rfl) LW.rows_plain LW.rows_bnd LW.rows_ok rfl rfl (by rw [LW.rows_fns]; exact LW.pure_law)
end
